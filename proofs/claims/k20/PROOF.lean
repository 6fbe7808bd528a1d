import PyProof.Rows.All
import Wide.All
import OpenK.AllK
import Wide.FinOn
import HandS.ForMost
import HandS.Exc
import HandS.ExcOwn
import HandS.ExcCtx
import HandS.Hot
import HandS.HotCalls
import HandS.Lambda
import HandS.Nested
import HandS.IsInst
import HandS.ExcIs
import HandS.ExcInit
import HandS.ExcInitHot
import HandS.ExcField
import HandS.Defaults
import HandS.HeadHook1
import HandS.HeadHook2
import HandS.Head0
import HandS.Head1
import HandS.Head2
import HandS.Head3
import HandS.HeadHook3
import HandS.HeadHook4
import HandS.HeadEnd
import HandS.HeadWalk
import HandS.EndTab
import HandS.Text
import HandS.Flt
import HandS.SortKw
import HandS.Conv
import HandS.StrMore
import HandS.TupAny
import KE.DataMinMax
import HandS.Steps
import HandS.Style
import HandS.Dict
import HandS.Evl
import HandS.Iter
import KE.KEqDeep
import KE.GoesMore
import HandS.SortInts
import PyProof.Rows.Walk
import PySem.Challenge.RW_logless_k20_sites_hooks_cores
section
set_option Elab.async false
set_option linter.all false
set_option maxRecDepth 100000
set_option maxHeartbeats 2000000
/-! lambdas as values: made in a def's body, handed to other defs, called there; the maker's cells are pinned meanwhile -/
namespace LV
open PySem PySem.Spec PyProof.Rows L2 LamX NdefX

def mix (cs : List Addr) (H1 H2 : Hp) : Hp := fun b => if b ∈ cs then H1 b else H2 b
theorem mix_in {cs : List Addr} {H1 H2 : Hp} {b : Addr} (h : b ∈ cs) : mix cs H1 H2 b = H1 b := if_pos h
theorem mix_out {cs : List Addr} {H1 H2 : Hp} {b : Addr} (h : b ∉ cs) : mix cs H1 H2 b = H2 b := if_neg h
abbrev HN : Hp := fun _ => none
/-- the very object o stands at c -/
def Pin (c : Addr) (o : Obj) : HO := .ext fun h => h.get? c = some o
theorem pin_own {c x : Addr} {o : Obj} : Pin c o ≠ .own x := fun z => by
  unfold Pin at z; cases z
theorem pin_tup {c : Addr} {o : Obj} {xs : List V} : Pin c o ≠ .tup xs := fun z => by
  unfold Pin at z; cases z
theorem pin_frz {c : Addr} {o o' : Obj} {u : HO} : Pin c o ≠ .frz o' u := fun z => by
  unfold Pin at z; cases z
theorem pin_tbl {c : Addr} {o : Obj} {ps : Array Value} : Pin c o ≠ .tbl ps := fun z => by
  unfold Pin at z; cases z
section
variable {P : Program} {w : World} {H H' H2 : Hp} {h : Heap} {c : Addr} {o : Obj} {cs : List Addr}
theorem pin_ok (e : h.get? c = some o) : ObjOk P w H h c (Pin c o) := ⟨e, ⟨o, e⟩, fun _ _ e1 st => st _ e1⟩
theorem pin_at (hok : HOk P w H h) (e : H c = some (Pin c o)) : h.get? c = some o := (hok c _ e).1
theorem hok_unpin (hok : HOk P w H h) (hp : ∀ c ∈ cs, ∃ o, H c = some (Pin c o)) : HOk P w (mix cs HN H) h := fun a u e => by
  have na : a ∉ cs := fun z => by rw [mix_in z] at e; cases e
  rw [mix_out na] at e
  have out : ∀ b u, H b = some u → (∀ c o, u ≠ Pin c o) → mix cs HN H b = some u := fun b u q n => by
    have nb : b ∉ cs := fun z => by
      obtain ⟨o', e'⟩ := hp b z
      rw [q] at e'
      exact n _ _ (Option.some.inj e')
    rw [mix_out nb]
    exact q
  exact (hok a u e).stay (fun _ _ _ q => q) (fun b q => out b _ q fun c o z => pin_own z.symm) fun b xs q => out b _ q fun c o z => pin_tup z.symm
theorem hok_repin (hok : HOk P w H' h) (hH : ∀ c ∈ cs, ∃ o, H2 c = some (Pin c o) ∧ h.get? c = some o) (hn : ∀ c ∈ cs, H' c = none) : HOk P w (mix cs H2 H') h := fun a u e => by
  by_cases na : a ∈ cs
  · rw [mix_in na] at e
    obtain ⟨o', e1, e2⟩ := hH a na
    rw [e] at e1
    have e3 := Option.some.inj e1
    subst e3
    exact pin_ok e2
  · rw [mix_out na] at e
    have out : ∀ b u, H' b = some u → mix cs H2 H' b = some u := fun b u q => by
      have nb : b ∉ cs := fun z => by rw [hn b z] at q; cases q
      rw [mix_out nb]
      exact q
    exact (hok a u e).stay (fun _ _ _ q => q) (fun b q => out b _ q) fun b xs q => out b _ q
end
section
variable {P : Program} {w : World} {K : PySem.W.Frag} {mg : Str → Option Value} {base : Heap} {A : Around} {outer : List Env} {s s' : Shared} {H : Hp} {cs : List Addr} {Q : VK} {E : XK}
theorem env0_unpin (e0 : Env0 P w K mg base A outer s H) (hp : ∀ c ∈ cs, ∃ o, H c = some (Pin c o)) : Env0 P w K mg base A outer s (mix cs HN H) := by
  have nn : ∀ b, H b = none → mix cs HN H b = none := fun b e => by
    by_cases z : b ∈ cs
    · rw [mix_in z]
    · rw [mix_out z]; exact e
  exact ⟨e0.frames, e0.mod, fun b o e => ⟨(e0.bs b o e).1, nn b (e0.bs b o e).2⟩, e0.bsz, e0.funs, fun b hb => nn b (e0.frf b hb), hok_unpin e0.hok hp, e0.bare⟩
theorem nfr_of (e0 : Env0 P w K mg base A outer s H) (hp : ∀ c ∈ cs, ∃ o, H c = some (Pin c o)) : ∀ c ∈ cs, c ∉ frs outer := fun c hc hm => by
  obtain ⟨o, e⟩ := hp c hc
  rw [e0.frf c hm] at e
  cases e
theorem out_of (hp : ∀ c ∈ cs, ∃ o, H c = some (Pin c o)) {b : Addr} {u : Option HO} (e : H b = u) (n : ∀ c o, u ≠ some (Pin c o)) : b ∉ cs ∧ mix cs HN H b = u := by
  have nb : b ∉ cs := fun z => by
    obtain ⟨o', e'⟩ := hp b z
    rw [e] at e'
    exact n _ _ e'
  exact ⟨nb, by rw [mix_out nb]; exact e⟩
theorem ce_repin {u : Value} (e0 : Env0 P w K mg base A outer s H) (hp : ∀ c ∈ cs, ∃ o, H c = some (Pin c o)) (h : CE outer P w (mix cs HN H) s (fun v H' => Q v (mix cs H H')) u s') : CE outer P w H s Q u s' := by
  obtain ⟨v, H', os, bare, un, hok', rv, q⟩ := h
  have nf := nfr_of e0 hp
  have oldC : ∀ c ∈ cs, ∃ o, H c = some (Pin c o) ∧ s.heap.get? c = some o := fun c hc => by
    obtain ⟨o, e⟩ := hp c hc
    exact ⟨o, e, pin_at e0.hok e⟩
  have nH' : ∀ c ∈ cs, H' c = none := fun c hc => by
    obtain ⟨o, e, g⟩ := oldC c hc
    exact un.free c o g (mix_in hc) (by simp)
  have newC : ∀ c ∈ cs, ∃ o, H c = some (Pin c o) ∧ s'.heap.get? c = some o := fun c hc => by
    obtain ⟨o, e, g⟩ := oldC c hc
    exact ⟨o, e, un.keep c o g (mix_in hc) (nf c hc) (by simp)⟩
  refine ⟨v, mix cs H H', os, bare, ⟨fun b o e n hb hx => ?_, fun b o e n hb hx => ?_, fun b o e n hx => ?_, un.there, fun b xs e => ?_, fun b o u e => ?_, fun b ps e => ?_⟩, hok_repin hok' newC nH', rv, q⟩
  · exact un.keep b o e (out_of hp n (fun _ _ z => by cases z)).2 hb hx
  · exact un.slot b o e (out_of hp n (fun _ _ z => by cases z)).2 hb hx
  · obtain ⟨h1, h2⟩ := out_of hp n (fun _ _ z => by cases z)
    rw [mix_out h1]
    exact un.free b o e h2 hx
  · obtain ⟨h1, h2⟩ := out_of hp e (fun _ _ z => pin_tup (Option.some.inj z).symm)
    rw [mix_out h1]
    exact un.tups b xs h2
  · obtain ⟨h1, h2⟩ := out_of hp e (fun _ _ z => pin_frz (Option.some.inj z).symm)
    rw [mix_out h1]
    exact un.frzs b o u h2
  · obtain ⟨h1, h2⟩ := out_of hp e (fun _ _ z => pin_tbl (Option.some.inj z).symm)
    rw [mix_out h1]
    exact un.tbls b ps h2
theorem cx_repin {u : Value} (e0 : Env0 P w K mg base A outer s H) (hp : ∀ c ∈ cs, ∃ o, H c = some (Pin c o)) (h : L2N.CX P w outer (mix cs HN H) s (fun cls d H' => E cls d (mix cs H H')) u s') : L2N.CX P w outer H s E u s' := by
  obtain ⟨a, B, H', cls, d, eu, fl, hok', ub, na, os, ag, hE⟩ := h
  have nf := nfr_of e0 hp
  have oldC : ∀ c ∈ cs, ∃ o, H c = some (Pin c o) ∧ s.heap.get? c = some o := fun c hc => by
    obtain ⟨o, e⟩ := hp c hc
    exact ⟨o, e, pin_at e0.hok e⟩
  have nH' : ∀ c ∈ cs, H' c = none := fun c hc => by
    obtain ⟨o, e, g⟩ := oldC c hc
    exact ub.free c o g (mix_in hc)
  have newC : ∀ c ∈ cs, ∃ o, H c = some (Pin c o) ∧ B.get? c = some o := fun c hc => by
    obtain ⟨o, e, g⟩ := oldC c hc
    exact ⟨o, e, ub.keep c o g (mix_in hc) (nf c hc)⟩
  have nac : a ∉ cs := fun z => by
    obtain ⟨o, _, g⟩ := newC a z
    rw [fl.2.1] at g
    cases g
  refine ⟨a, B, mix cs H H', cls, d, eu, fl, hok_repin hok' newC nH', ⟨fun b o e n hb => ?_, ub.slot, fun b o e n => ?_, ub.there, fun b xs e => ?_, fun b o u e => ?_, fun b ps e => ?_⟩, by rw [mix_out nac]; exact na, os, ag, hE⟩
  · exact ub.keep b o e (out_of hp n (fun _ _ z => by cases z)).2 hb
  · obtain ⟨h1, h2⟩ := out_of hp n (fun _ _ z => by cases z)
    rw [mix_out h1]
    exact ub.free b o e h2
  · obtain ⟨h1, h2⟩ := out_of hp e (fun _ _ z => pin_tup (Option.some.inj z).symm)
    rw [mix_out h1]
    exact ub.tups b xs h2
  · obtain ⟨h1, h2⟩ := out_of hp e (fun _ _ z => pin_frz (Option.some.inj z).symm)
    rw [mix_out h1]
    exact ub.frzs b o u h2
  · obtain ⟨h1, h2⟩ := out_of hp e (fun _ _ z => pin_tbl (Option.some.inj z).symm)
    rw [mix_out h1]
    exact ub.tbls b ps h2
theorem cr_repin {r : Result} (e0 : Env0 P w K mg base A outer s H) (hp : ∀ c ∈ cs, ∃ o, H c = some (Pin c o)) (h : CR (L2N.CX P w) outer P w (mix cs HN H) s (fun v H' => Q v (mix cs H H')) (fun cls d H' => E cls d (mix cs H H')) r s') : CR (L2N.CX P w) outer P w H s Q E r s' := by
  cases r with
  | error e => exact cx_repin e0 hp h
  | ok fl =>
    cases fl with
    | ret u => exact ce_repin e0 hp h
    | next => exact h
    | brk => exact h
    | cont => exact h
end

/-! ### thunks -/
/-- what is known by its own object alone stays -/
def ExtE (H H' : Hp) : Prop := ∀ b φ, H b = some (.ext φ) → H' b = some (.ext φ)
theorem ExtE.refl (H : Hp) : ExtE H H := fun _ _ h => h
theorem ExtE.trans {H H1 H2 : Hp} (a : ExtE H H1) (b : ExtE H1 H2) : ExtE H H2 := fun c o h => b c o (a c o h)
/-- a function without parameters at f that keeps sp wherever what H tells stands -/
structure Thunk (P : Program) (w : World) (K : PySem.W.Frag) (mg : Str → Option Value) (base : Heap) (k : Nat) (H : Hp) (f : Addr) (sp : Hp → VK → XK → Prop) : Prop where
  fn : ∀ (H2 : Hp) (h : Heap), ExtE H H2 → HOk P w H2 h → PySem.W.FnAt f h
  run : ∀ (H2 : Hp), ExtE H H2 → ∀ (A : Around) (outer : List Env) (s : Shared) (Q : VK) (E : XK), Room k A → Env0 P w K mg base A outer s H2 → sp H2 Q E →
    codeAny (model P w) A (.call (.ref f) ⟨[], []⟩) (CR (L2N.CX P w) outer P w H2 s Q E) s
section
variable {P : Program} {w : World} {K : PySem.W.Frag} {mg : Str → Option Value} {base : Heap} {k j : Nat} {H H' : Hp} {f : Addr} {sp sp' : Hp → VK → XK → Prop}
theorem Thunk.ext (t : Thunk P w K mg base k H f sp) (e : ExtE H H') : Thunk P w K mg base k H' f sp := ⟨fun H2 h a => t.fn H2 h (e.trans a), fun H2 a => t.run H2 (e.trans a)⟩
theorem Thunk.mono (t : Thunk P w K mg base k H f sp) (h : k ≤ j) : Thunk P w K mg base j H f sp := ⟨t.fn, fun H2 a A outer s Q E r => t.run H2 a A outer s Q E (r.mono h)⟩
theorem Thunk.imp (t : Thunk P w K mg base k H f sp) (h : ∀ H2 Q E, ExtE H H2 → sp' H2 Q E → sp H2 Q E) : Thunk P w K mg base k H f sp' := ⟨t.fn, fun H2 a A outer s Q E r e0 q => t.run H2 a A outer s Q E r e0 (h H2 Q E a q)⟩
end
/-- the lambda's object -/
def LamO (f : Addr) (F : NF) (body : Expr) : HO := .ext fun h => ∃ pm ctv, h.get? f = some (PySem.W.kla_obj "<lambda>" F.qual F.params body F.scope F.cl pm F.c ctv)
theorem lamO_at {P : Program} {w : World} {H : Hp} {h : Heap} {f : Addr} {F : NF} {body : Expr} (hok : HOk P w H h) (e : H f = some (LamO f F body)) : ∃ pm ctv, h.get? f = some (PySem.W.kla_obj "<lambda>" F.qual F.params body F.scope F.cl pm F.c ctv) := (hok f _ e).1
theorem lamO_ok {P : Program} {w : World} {H : Hp} {h : Heap} {f : Addr} {F : NF} {body : Expr} {pm ctv : Value} (e : h.get? f = some (PySem.W.kla_obj "<lambda>" F.qual F.params body F.scope F.cl pm F.c ctv)) : ObjOk P w H h f (LamO f F body) :=
  ⟨⟨pm, ctv, e⟩, ⟨_, e⟩, fun _ _ ⟨pm, ctv, z⟩ st => ⟨pm, ctv, st _ z⟩⟩
/-- the addresses of the cells that names have -/
def celA (cl : List (Str × Addr)) : List Addr := cl.filterMap fun p => cl.lookup p.1
theorem mem_celA {cl : List (Str × Addr)} {c : Addr} : c ∈ celA cl ↔ ∃ y, cl.lookup y = some c := by
  unfold celA
  rw [List.mem_filterMap]
  constructor
  · rintro ⟨p, _, e⟩; exact ⟨_, e⟩
  · rintro ⟨y, e⟩; exact ⟨(y, c), PySem.mem_of_lookup e, e⟩
/-- H with the cells of the frame pinned -/
def pinH (cs : List Addr) (h : Heap) (H : Hp) : Hp := fun b => if b ∈ cs then (h.get? b).map (Pin b) else H b
section
variable {X : Cx} {pins : List (Addr × Obj)} {σ : L2.St} {H : Hp} {s : Shared}
theorem pinH_in {cs : List Addr} {h : Heap} {b : Addr} {o : Obj} (hb : b ∈ cs) (e : h.get? b = some o) : pinH cs h H b = some (Pin b o) := by
  unfold pinH
  rw [if_pos hb, e] <;> rfl
theorem pinH_out {cs : List Addr} {h : Heap} {b : Addr} (hb : b ∉ cs) : pinH cs h H b = H b := if_neg hb
theorem cel_obj (I : Inv X pins σ H s) {c : Addr} (h : c ∈ celA X.env.cells) : ∃ o v, s.heap.get? c = some o ∧ o.data = .cell v := by
  obtain ⟨y, e⟩ := mem_celA.mp h
  obtain ⟨v, o, h1, h2⟩ := I.cell y c e
  exact ⟨o, v, h1, h2⟩
theorem cel_free (I : Inv X pins σ H s) {c : Addr} (h : c ∈ celA X.env.cells) : H c = none := by
  obtain ⟨y, e⟩ := mem_celA.mp h
  exact I.freeC y c e
/-- THE THUNK: a lambda of the running frame, the frame's cells pinned -/
theorem thunk_of {F : NF} {body : Expr} {fr : List Str} {js : List Nat} {f : Addr} {k : Nat} {tb : XK → TE} (I : Inv X pins σ H s) (hf : H f = some (LamO f F body)) (hc : H F.c = some (CodeO F.c F.qual)) (cp : Caps X F.cl fr js) (S : NScope fr [] fr F.scope)
    (hbind : ∀ (pm cv ctv : Value), bindArgs (PySem.W.kla_fn "<lambda>" F.qual F.params body F.scope F.cl pm cv ctv) ⟨[], []⟩ = pure [])
    (hbody : ∀ (A : Around) (outer : List Env) (s : Shared) (H : Hp) (E : XK), Room k (A.deeper (envF F f s.heap.objs.size)) → PE (ncx (L2N.CX X.prog X.w) X.prog X.w X.K X.mg X.base fr F f A outer s H E) body (tb E)) :
    Thunk X.prog X.w X.K X.mg X.base (k + 1) (pinH (celA X.env.cells) s.heap H) f
      (fun H2 Q E => tb (fun cls d H' => E cls d (mix (celA F.cl) H2 H')) (startF fr [] (js.map (slotAt σ))) (mix (celA F.cl) HN H2) (fun v H' => Q v (mix (celA F.cl) H2 H'))) := by
  have sub : ∀ c ∈ celA F.cl, c ∈ celA X.env.cells := fun c h => by
    obtain ⟨y, e⟩ := mem_celA.mp h
    exact mem_celA.mpr ⟨y, cp.sub y c e⟩
  have keepP : ∀ b φ, H b = some (.ext φ) → pinH (celA X.env.cells) s.heap H b = some (.ext φ) := fun b φ e => by
    have nb : b ∉ celA X.env.cells := fun z => by rw [cel_free I z] at e; cases e
    rw [pinH_out nb]
    exact e
  refine ⟨fun H2 h a hok => ?_, fun H2 a A outer s2 Q E hr e0 hq => ?_⟩
  · obtain ⟨pm, ctv, e⟩ := lamO_at hok (a f _ (keepP f _ hf))
    exact ⟨_, _, _, _, e⟩
  · have hp : ∀ c ∈ celA F.cl, ∃ o, H2 c = some (Pin c o) ∧ s.heap.get? c = some o := fun c h => by
      obtain ⟨o, v, g, _⟩ := cel_obj I (sub c h)
      exact ⟨o, a c _ (pinH_in (sub c h) g), g⟩
    have hp' : ∀ c ∈ celA F.cl, ∃ o, H2 c = some (Pin c o) := fun c h => by
      obtain ⟨o, e, _⟩ := hp c h
      exact ⟨o, e⟩
    have e1 := env0_unpin e0 hp'
    have cellK : ∀ {y : Str} {c : Addr} {v : Option Value}, F.cl.lookup y = some c → s.heap.IsCell c v → s2.heap.IsCell c v := fun {y c v} e ⟨o, g, d⟩ => by
      obtain ⟨o', e', g'⟩ := hp c (mem_celA.mpr ⟨y, e⟩)
      rw [g] at g'
      cases g'
      exact ⟨o, pin_at e0.hok e', d⟩
    have C0 := cells_of I cp
    have C : CellsAt F.cl fr (js.map (slotAt σ)) s2.heap (mix (celA F.cl) HN H2) := by
      refine ⟨C0.len, fun y c e => ?_, C0.inj, fun i y e => ?_⟩
      · obtain ⟨_, v, z⟩ := C0.all y c e
        exact ⟨mix_in (mem_celA.mpr ⟨y, e⟩), v, cellK e z⟩
      · obtain ⟨c, hc, hv⟩ := C0.has i y e
        refine ⟨c, hc, fun v ev => ?_⟩
        obtain ⟨u, r, z⟩ := hv v ev
        exact ⟨u, r, cellK hc z⟩
    refine codeAny_mono ?_ fun r s' hq' => cr_repin e0 hp' hq'
    have lim : s2.heap.NoLimit := e1.mod.nolimit.keeps fun b o e => (e1.bs b o e).1
    obtain ⟨pm, ctv, ho⟩ := lamO_at e0.hok (a f _ (keepP f _ hf))
    have hco := codeO_at e0.hok (a F.c _ (keepP F.c _ hc))
    refine PySem.W.kla_callFunE hr.depth ho rfl S.co S.gen rfl hco ?_
    rw [hbind]
    refine wpAny_pure (wpAny_newFunctionEnv S.nocell (fun y hy => absurd hy (by simp)) (fun h₁ hns hsb => ⟨lim.fresh _ hsb, ?_⟩) S.kind)
    show codeAny _ _ (.expr body (envF F f s2.heap.objs.size)) _ _
    have kp : ∀ b o, s2.heap.get? b = some o → h₁.get? b = some o := fun b o e => hsb.extBut b o (Nat.ne_of_lt (Heap.lt_size e)) (Heap.get?_push_of_some _ e)
    have J : Inv (ncx (L2N.CX X.prog X.w) X.prog X.w X.K X.mg X.base fr F f A outer s2 (mix (celA F.cl) HN H2) (fun cls d H' => E cls d (mix (celA F.cl) H2 H'))) [] (startF fr [] (js.map (slotAt σ))) (mix (celA F.cl) HN H2) { s2 with heap := h₁, toks := s2.toks + ([] : List (Str × Value)).length } :=
      inv_startN (us := []) (vs := []) S hr.hd e1 rfl .nil C hns kp
    refine PySem.W.kla_codeExpr (wpAny_mono ((hbody A outer s2 _ _ (hr.deeper _)).run [] _ _ _ _ J hq) (fun v s' hq2 => ?_) fun e s' hq2 => hq2)
    obtain ⟨w', H', J', rv, q⟩ := hq2
    exact ⟨w', H', J'.os, J'.bare, J'.base, J'.hok, rv, q⟩
end
end LV
end
section
set_option Elab.async false
set_option linter.all false
set_option maxRecDepth 100000
set_option maxHeartbeats 2000000
namespace LV
open PySem PySem.Spec PyProof.Rows L2 LamX NdefX
section
variable {X : Cx} {pins : List (Addr × Obj)} {σ : L2.St} {H : Hp} {s : Shared}
/-- a lambda made and known from now on -/
theorem lam_makeO {T : List (Addr × Str)} {c P : Addr} {params : Arguments} {body : Expr} {scope : Scope} {pos : Pos} {E : Value → Shared → Prop} {Q : Value → Shared → Prop} (I : Inv X pins σ H s) (TB : TabB X.base X.mg c P) (hcode : X.env.code = .ref c)
    (hm : (P, X.env.qual ++ "<lambda>") ∈ T) (hu : ∀ p ∈ T, p.1 = P → p.2 = X.env.qual ++ "<lambda>") (hT : Tabs T H) (hdef : defaultsOf params X.env = ([], [])) (hfree : ∀ y ∈ scope.names, y.2 = .free → ∃ c, X.env.cells.lookup y.1 = some c)
    (h : ∀ (f c' : Addr) (H1 : Hp) (s' : Shared), Inv X pins σ H1 s' → ExtN H H1 → (∀ b, H1 b = Option.none → H b = Option.none) → Tabs T H1 → H f = none →
      H1 f = some (LamO f ⟨"<lambda>", X.env.qual ++ "<lambda>", params, [], scope, cloFrom X.env.cells scope.names [], c'⟩ body) → H1 c' = some (CodeO c' (X.env.qual ++ "<lambda>")) → Q (.ref f) s') :
    wpAny (model X.prog X.w) X.A (eval (.Lambda params body scope pos) X.env) Q E s := by
  obtain ⟨ps, hP, ht, ha⟩ := hT _ hm
  refine PySem.W.kla_eval hdef ?_
  have bP : s.heap.BuiltinsAt X.mg P := TB.bm.keeps I.bk
  have hP' : s.heap.get? P = some { cls := .none, data := .fields ps } := I.hok P _ hP
  cases hc : codeAmong pos ps.toList with
  | none =>
    refine PySem.W.kla_makeFunction (mg := X.mg) (c := c) (P := P) (ps := ps) (closure_ok hfree) I.ok.glob (I.mod.glob.keeps I.bk) hcode (TB.code.keeps I.bk) hP' ht hc TB.gP bP fun c' ctv h' tk hx hge hlt hrec htb => ?_
    obtain ⟨c2, oc, vs, t, e2, hoc, hd, hv⟩ := hrec
    cases e2
    have hsz : s.heap.objs.size ≤ h'.objs.size := Nat.le_trans hge (Nat.le_of_lt hlt)
    have nC : H c' = none := I.hok.fresh hge
    have I1 := inv_table (t' := tk) (more := #[rawInt pos.line, rawInt pos.col, .ref c']) (h' := h') I hP (fun b o hb e => hx b o hb e) htb hge ⟨oc, vs, t, hoc, hd, hv⟩
    have hE : ExtN H (upd (upd H P (.tbl (ps ++ #[rawInt pos.line, rawInt pos.col, .ref c']))) c' (CodeO c' (X.env.qual ++ "<lambda>"))) := fun b o e n => by
      rw [upd_ne (ne_of_none e nC), upd_ne (fun z => n ps (Option.some.inj (e.symm.trans (by rw [z]; exact hP))))]
      exact e
    have eL : (ps ++ #[rawInt pos.line, rawInt pos.col, .ref c']).toList = ps.toList ++ [rawInt pos.line, rawInt pos.col, .ref c'] := by simp
    have T1 : Tabs T (upd (upd H P (.tbl (ps ++ #[rawInt pos.line, rawInt pos.col, .ref c']))) c' (CodeO c' (X.env.qual ++ "<lambda>"))) := fun p hp => by
      by_cases hb : p.1 = P
      · rw [hu p hp hb, hb]
        refine ⟨_, by rw [upd_ne (ne_of_none hP nC), upd_same], by rw [eL]; exact PySem.TriplesOk_snoc _ _ _ _ ht, fun p' cv hcv => ?_⟩
        rw [eL] at hcv
        rcases among_app _ ht hcv with z | z
        · obtain ⟨c0, e1, e2⟩ := ha p' cv z
          exact ⟨c0, e1, hE _ _ e2 codeO_ne⟩
        · exact ⟨c', z, upd_same⟩
      · obtain ⟨ps', a1, a2, a3⟩ := hT p hp
        refine ⟨ps', by rw [upd_ne (ne_of_none a1 nC), upd_ne hb]; exact a1, a2, fun p' cv hcv => ?_⟩
        obtain ⟨c0, e1, e2⟩ := a3 p' cv hcv
        exact ⟨c0, e1, hE _ _ e2 codeO_ne⟩
    have nF := I1.hok.fresh (Nat.le_refl _)
    have I2 : Inv X pins σ (upd (upd (upd H P (.tbl (ps ++ #[rawInt pos.line, rawInt pos.col, .ref c']))) c' (CodeO c' (X.env.qual ++ "<lambda>"))) h'.objs.size (LamO h'.objs.size ⟨"<lambda>", X.env.qual ++ "<lambda>", params, [], scope, cloFrom X.env.cells scope.names [], c'⟩ body)) _ :=
      I1.laid (t' := tk) (h' := h'.push (PySem.W.kla_obj "<lambda>" (X.env.qual ++ "<lambda>") params body scope (cloFrom X.env.cells scope.names []) ((X.mg "__name__").getD .none) c' ctv)) (fun b u e => Heap.get?_push_of_some _ e) (Nat.le_refl _) (lamO_ok (Heap.get?_push_size _ rfl))
    refine h h'.objs.size c' _ _ I2 (fun b o e n => ?_) (fun b e => upd_none (upd_none (upd_none e))) (fun p hp => ?_) (I.hok.fresh hsz) upd_same ?_
    · have e1 := hE b o e n
      exact (upd_ne (ne_of_none e1 nF)).trans e1
    · exact (T1 p hp).ext fun b o e => (upd_ne (ne_of_none e nF)).trans e
    · exact (upd_ne (Nat.ne_of_lt hlt)).trans upd_same
  | some cv =>
    obtain ⟨c', e, hco⟩ := ha pos cv hc
    subst e
    refine PySem.W.kla_makeFunctionHit (mg := X.mg) (c := c) (P := P) (ps := ps) (closure_ok hfree) I.ok.glob (I.mod.glob.keeps I.bk) hcode (TB.code.keeps I.bk) hP' ht hc bP fun ctv h' tk hx hsz => ?_
    have I1 : Inv X pins σ H { s with heap := h', toks := tk } := I.kept hx
    have nF : H h'.objs.size = none := I1.hok.fresh (Nat.le_refl _)
    have I2 : Inv X pins σ (upd H h'.objs.size (LamO h'.objs.size ⟨"<lambda>", X.env.qual ++ "<lambda>", params, [], scope, cloFrom X.env.cells scope.names [], c'⟩ body)) _ :=
      I1.laid (t' := tk) (h' := h'.push (PySem.W.kla_obj "<lambda>" (X.env.qual ++ "<lambda>") params body scope (cloFrom X.env.cells scope.names []) ((X.mg "__name__").getD .none) c' ctv)) (fun b u e => Heap.get?_push_of_some _ e) (Nat.le_refl _) (lamO_ok (Heap.get?_push_size _ rfl))
    refine h h'.objs.size c' _ _ I2 (fun b o e n => ?_) (fun b e => upd_none e) (fun p hp => ?_) nF upd_same ?_
    · exact (upd_ne (ne_of_none e nF)).trans e
    · exact (hT p hp).ext fun b o e => (upd_ne (ne_of_none e nF)).trans e
    · exact (upd_ne (ne_of_none hco nF)).trans hco
end
/-- lambda: body, as an expression -/
def tLamV (T : List (Addr × Str)) (mk : Addr → NF) (body : Expr) : TE := fun σ H Q => Tabs T H ∧ ∀ (f c' : Addr) (H1 : Hp), ExtN H H1 → (∀ b, H1 b = Option.none → H b = Option.none) → Tabs T H1 → H f = none → H1 f = some (LamO f (mk c') body) → H1 c' = some (CodeO c' (mk c').qual) → Q (.ref f) H1
abbrev lamF (X : Cx) (params : Arguments) (scope : Scope) (c' : Addr) : NF := ⟨"<lambda>", X.env.qual ++ "<lambda>", params, [], scope, cloFrom X.env.cells scope.names [], c'⟩
theorem pe_lam {X : Cx} {T : List (Addr × Str)} {c P : Addr} {params : Arguments} {body : Expr} {scope : Scope} {pos : Pos} (TB : TabB X.base X.mg c P) (hcode : X.env.code = .ref c)
    (hm : (P, X.env.qual ++ "<lambda>") ∈ T) (hu : ∀ p ∈ T, p.1 = P → p.2 = X.env.qual ++ "<lambda>") (hdef : defaultsOf params X.env = ([], []))
    (hfree : ∀ y ∈ scope.names, y.2 = .free → X.env.scope.names.lookup y.1 = some .cell ∨ X.env.scope.names.lookup y.1 = some .free) :
    PE X (.Lambda params body scope pos) (tLamV T (lamF X params scope) body) := by
  refine ⟨fun pins s σ H Q I h => ?_⟩
  obtain ⟨hT, h⟩ := h
  have hfr : ∀ y ∈ scope.names, y.2 = .free → ∃ c, X.env.cells.lookup y.1 = some c := fun y hy e => (hfree y hy e).elim (fun z => I.ok.has _ (.inl z)) fun z => I.ok.has _ (.inr z)
  exact lam_makeO I TB hcode hm hu hT hdef hfr fun f c' H1 s' J e nn T1 n hf hc => ⟨.ref f, H1, J, rfl, h f c' H1 e nn T1 n hf hc⟩

/-! ### a call while the frame's cells are pinned -/
/-- what a lambda of the running frame is -/
structure LamD where
  nf : Addr → NF
  body : Expr
  js : List Nat
  k : Nat
  sp : List (Option V) → Hp → VK → XK → Prop
/-- H2: H1, and some cells pinned -/
def PinR (H1 H2 : Hp) : Prop := ∀ b, H2 b = H1 b ∨ (H1 b = none ∧ ∃ o, H2 b = some (Pin b o))
/-- H4: H3 without the pins -/
def UnpR (H1 H2 H3 H4 : Hp) : Prop := ∀ b, H4 b = H3 b ∨ (H4 b = none ∧ H1 b = none ∧ ∃ o, H2 b = some (Pin b o))
def CodeK (H3 H4 : Hp) : Prop := ∀ b q, H3 b = some (CodeO b q) → H4 b = some (CodeO b q)
def Kept (H1 H2 H3 : Hp) : Prop := ∀ b o, H1 b = none → H2 b = some (Pin b o) → H3 b = some (Pin b o)
/-- the frame's lambdas are thunks -/
def Lams (P : Program) (w : World) (K : PySem.W.Frag) (mg : Str → Option Value) (base : Heap) (LS : List LamD) (σ : L2.St) (H1 H2 : Hp) : Prop :=
  ∀ L ∈ LS, ∀ f c', H1 f = some (LamO f (L.nf c') L.body) → H1 (L.nf c').c = some (CodeO (L.nf c').c (L.nf c').qual) → Thunk P w K mg base L.k H2 f (L.sp (L.js.map (slotAt σ)))
def tPin (P : Program) (w : World) (K : PySem.W.Frag) (mg : Str → Option Value) (base : Heap) (LS : List LamD) (sp : Sp) (t : TA) : TE := fun σ H Q => t σ H fun vs H1 => ∀ H2, PinR H1 H2 → Lams P w K mg base LS σ H1 H2 →
  sp vs H2 (fun v H3 => Kept H1 H2 H3 ∧ ∀ H4, UnpR H1 H2 H3 H4 → CodeK H3 H4 → Q v H4) fun _ _ _ => False
section
variable {X : Cx} {pins : List (Addr × Obj)} {σ : L2.St} {H : Hp} {s s' : Shared}
theorem cel_above (I : Inv X pins σ H s) (hfn : ∀ x, X.fn x = true) {c : Addr} (h : c ∈ celA X.env.cells) : X.s_0.heap.objs.size ≤ c := by
  obtain ⟨y, e⟩ := mem_celA.mp h
  exact I.ok.cab y c (hfn y) e
theorem cel_nofr (I : Inv X pins σ H s) (hfn : ∀ x, X.fn x = true) {c : Addr} (h : c ∈ celA X.env.cells) : c ∉ frs X.stack := fun hm => by
  rcases List.mem_cons.mp (I.stkSub c hm) with e | e
  · obtain ⟨y, e'⟩ := mem_celA.mp h
    exact I.cne y c e' e
  · obtain ⟨_, o, ho, _⟩ := I.ok.funs.mem e
    exact absurd (Nat.lt_of_lt_of_le (Heap.lt_size ho) (cel_above I hfn h)) (Nat.lt_irrefl _)
theorem env0_pin (I : Inv X pins σ H s) (hfn : ∀ x, X.fn x = true) : Env0 X.prog X.w X.K X.mg X.base X.A X.stack s (pinH (celA X.env.cells) s.heap H) := by
  have e0 := I.env0
  refine ⟨e0.frames, e0.mod, fun b o e => ⟨(e0.bs b o e).1, ?_⟩, e0.bsz, e0.funs, fun b hb => ?_, fun a u e => ?_, e0.bare⟩
  · by_cases z : b ∈ celA X.env.cells
    · have h1 := cel_above I hfn z
      have h2 := Heap.lt_size (I.ok.bs b o e).1
      exact absurd (Nat.lt_of_lt_of_le h2 h1) (Nat.lt_irrefl _)
    · rw [pinH_out z]
      exact (e0.bs b o e).2
  · by_cases z : b ∈ celA X.env.cells
    · exact absurd hb (cel_nofr I hfn z)
    · rw [pinH_out z]
      exact e0.frf b hb
  · by_cases z : a ∈ celA X.env.cells
    · obtain ⟨o, v, g, _⟩ := cel_obj I z
      rw [pinH_in z g] at e
      cases e
      exact pin_ok g
    · rw [pinH_out z] at e
      have out : ∀ b u, H b = some u → pinH (celA X.env.cells) s.heap H b = some u := fun b u q => by
        have nb : b ∉ celA X.env.cells := fun z => by rw [cel_free I z] at q; cases q
        rw [pinH_out nb]
        exact q
      exact (e0.hok a u e).stay (fun _ _ _ q => q) (fun b q => out b _ q) fun b xs q => out b _ q
theorem pinR (I : Inv X pins σ H s) : PinR H (pinH (celA X.env.cells) s.heap H) := fun b => by
  by_cases z : b ∈ celA X.env.cells
  · obtain ⟨o, v, g, _⟩ := cel_obj I z
    exact .inr ⟨cel_free I z, o, pinH_in z g⟩
  · exact .inl (pinH_out z)
/-- behind the call: the pins are taken off -/
theorem after_pin {Q : VK} {u : Value} (I : Inv X pins σ H s) (hfn : ∀ x, X.fn x = true)
    (h : CE X.stack X.prog X.w (pinH (celA X.env.cells) s.heap H) s (fun v H3 => Kept H (pinH (celA X.env.cells) s.heap H) H3 ∧ ∀ H4, UnpR H (pinH (celA X.env.cells) s.heap H) H3 H4 → CodeK H3 H4 → Q v H4) u s') : EP X pins σ Q u s' := by
  obtain ⟨v, H3, os, bare, un, hok, rv, kp, q⟩ := h
  have cs := celA X.env.cells
  have pin3 : ∀ c ∈ celA X.env.cells, ∃ o, s.heap.get? c = some o ∧ H3 c = some (Pin c o) := fun c hc => by
    obtain ⟨o, v, g, _⟩ := cel_obj I hc
    exact ⟨o, g, kp c o (cel_free I hc) (pinH_in hc g)⟩
  have oldS : ∀ b u, H b = u → b ∉ celA X.env.cells → pinH (celA X.env.cells) s.heap H b = u := fun b u e z => (pinH_out z).trans e
  have notC : ∀ b u, H b = some u → b ∉ celA X.env.cells := fun b u e z => by rw [cel_free I z] at e; cases e
  refine ⟨v, mix (celA X.env.cells) HN H3, I.call' (ch := []) os ⟨fun b o e n hb hx => ?_, fun b o e n hb hx => ?_, fun b o e n hx => ?_, un.there, fun b xs e => ?_, fun b o u e => ?_, fun b ps e => ?_⟩ (hok_unpin hok fun c hc => ?_) bare (fun _ z => nomatch z), rv, q _ (fun b => ?_) fun b qn e => ?_⟩
  · by_cases z : b ∈ celA X.env.cells
    · obtain ⟨o', g, e3⟩ := pin3 b z
      rw [e] at g
      cases g
      exact pin_at hok e3
    · exact un.keep b o e (oldS b _ n z) hb hx
  · by_cases z : b ∈ celA X.env.cells
    · exact absurd hb (cel_nofr I hfn z)
    · exact un.slot b o e (oldS b _ n z) hb hx
  · by_cases z : b ∈ celA X.env.cells
    · exact mix_in z
    · rw [mix_out z]
      exact un.free b o e (oldS b _ n z) hx
  · rw [mix_out (notC b _ e)]
    exact un.tups b xs (oldS b _ e (notC b _ e))
  · rw [mix_out (notC b _ e)]
    exact un.frzs b o u (oldS b _ e (notC b _ e))
  · rw [mix_out (notC b _ e)]
    exact un.tbls b ps (oldS b _ e (notC b _ e))
  · obtain ⟨o, _, e3⟩ := pin3 c hc
    exact ⟨o, e3⟩
  · by_cases z : b ∈ celA X.env.cells
    · obtain ⟨o, v, g, _⟩ := cel_obj I z
      exact .inr ⟨mix_in z, cel_free I z, o, pinH_in z g⟩
    · exact .inl (mix_out z)
  · have nb : b ∉ celA X.env.cells := fun z => by
      obtain ⟨o, v, g, d⟩ := cel_obj I z
      obtain ⟨o', g', e3⟩ := pin3 b z
      rw [g] at g'
      cases g'
      have h1 := pin_at hok e3
      obtain ⟨⟨oc, vs, t, h2, h3, _⟩, _, _⟩ := hok b _ e
      rw [h1] at h2
      cases h2
      rw [d] at h3
      cases h3
    rw [mix_out nb]
    exact e
end
/-- what the maker says of a lambda of its own -/
def LamOk (X : Cx) (L : LamD) : Prop := ∀ (pins : List (Addr × Obj)) (σ : L2.St) (H : Hp) (s : Shared), Inv X pins σ H s → ∀ f c', H f = some (LamO f (L.nf c') L.body) → H (L.nf c').c = some (CodeO (L.nf c').c (L.nf c').qual) →
  Thunk X.prog X.w X.K X.mg X.base L.k (pinH (celA X.env.cells) s.heap H) f (L.sp (L.js.map (slotAt σ)))
section
variable {X : Cx} {CX : CXT} {k : Nat} {g : Addr} {fd : FuncData} {ps : List Str} {sp : Sp} {x : Str} {p pos : Pos} {e : Expr} {es : List Expr} {t : TA} {LS : List LamD}
/-- g(e, ..), some of the arguments lambdas of the running frame -/
theorem pe_callPin (F : FnOk X.prog X.w X.K X.mg X.base CX k g fd ps sp) (hr : Room k X.A) (hfn : ∀ x, X.fn x = true) (hL : ∀ L ∈ LS, LamOk X L) (hg : Gl X x) (hm : X.mg x = some (.ref g)) (hk : PySem.W.keepIn X.K (.ref g) = true) (hb : Binds X.K fd ps [])
    (hx : ∀ (s : Shared) (H : Hp) (e : Value) (s' : Shared), CX X.stack H s (fun _ _ _ => False) e s' → False) (ha : PA X (e :: es) t)
    (hdb : (x == ("__debug__" : Str)) = false := by decide) (he : starEach (e :: es) X.env = (false, eval e X.env) :: starEach es X.env := by rfl) (hpl : (backTo pos (starEach es X.env)).any (·.1) = false := by rfl) :
    PE X (.Call (.Name x p) (e :: es) [] pos) (tPin X.prog X.w X.K X.mg X.base LS sp t) := by
  refine ⟨fun pins s σ H Q I h => ?_⟩
  refine wpAny_Call_Name_kw (ld_glob I hg hm ?_ hdb)
  refine PySem.W.callWith_K (h₀ := X.base) I.ok.mod.kin hk (thn (ha.run pos pins s σ H _ I h) fun us s1 ⟨vs, H1, I1, r, q⟩ => ⟨I1.kIn, ?_⟩) he hpl
  have q2 := q _ (pinR I1) fun L hl f c' hf hc => hL L hl pins σ H1 s1 I1 f c' hf hc
  have hl : us.length = ps.length := by rw [← r.length]; exact F.len _ _ _ _ q2
  have b := hb s1 us I1.kIn (by rw [List.append_nil]; exact hl)
  rw [List.append_nil] at b
  refine wpAny_call (codeAny_mono (F.run X.A X.stack s1 _ ⟨us, []⟩ us vs _ _ hr (env0_pin I1 hfn) b r q2) fun r s' hq => ?_)
  cases r with
  | error e => exact (hx _ _ _ _ hq).elim
  | ok fl =>
    cases fl with
    | ret u => exact after_pin I1 hfn hq
    | next => exact False.elim hq
    | brk => exact False.elim hq
    | cont => exact False.elim hq
end
section
variable {X : Cx} {k i : Nat} {a : Str} {p1 p2 : Pos} {E : L2.St → XK}
/-- x(), x a name that holds a thunk -/
def tThunk (P : Program) (w : World) (K : PySem.W.Frag) (mg : Str → Option Value) (base : Heap) (k i : Nat) (E : L2.St → XK) : TE := fun σ H Q => ∃ f sp, σ[i]? = some (some (.ref f)) ∧ Thunk P w K mg base k H f sp ∧ sp H Q (E σ)
theorem pe_thunk (hr : Room k X.A) (hx : ∀ σ, PassesAt (L2N.CX X.prog X.w) X σ (E σ)) (hN : X.N[i]? = some a) (hv : Vis X.env.scope a) (hd : (a == ("__debug__" : Str)) = false := by decide) (hcd : (a == ("__classdict__" : Str)) = false := by decide) :
    PE X (.Call (.Name a p1) [] [] p2) (tThunk X.prog X.w X.K X.mg X.base k i E) := by
  refine ⟨fun pins s σ H Q I h => ?_⟩
  obtain ⟨f, sp, hs, T, q⟩ := h
  refine wpAny_Call_Name_kw (thn ((pe_var (pos := p1) (i := i) hN hv hd hcd).run pins s σ H (fun v H1 => v = .ref f ∧ H1 = H) I ⟨.ref f, hs, rfl, rfl⟩) fun u s1 ⟨v, H1, I1, r1, q1⟩ => ?_)
  obtain ⟨ev, eH⟩ := q1
  subst ev
  rw [eH] at I1
  obtain rfl : u = Value.ref f := r1
  refine PySem.W.callWith_F0 (T.fn H _ (ExtE.refl H) I1.hok) ?_
  refine wpAny_call (codeAny_mono (T.run H (ExtE.refl H) X.A X.stack s1 Q (E σ) hr I1.env0 q) fun r s' hq => ?_)
  cases r with
  | error e => exact hx σ pins H s1 e s' I1 hq
  | ok fl =>
    cases fl with
    | ret u => exact I1.after hq
    | next => exact False.elim hq
    | brk => exact False.elim hq
    | cont => exact False.elim hq
end
end LV
end
section
set_option Elab.async false
set_option linter.all false
set_option maxRecDepth 100000
set_option maxHeartbeats 2000000
/-! the thunk once more: its cells are nowhere in what it leaves -/
namespace LV
open PySem PySem.Spec PyProof.Rows L2 LamX NdefX
theorem cr_free {P : Program} {w : World} {outer : List Env} {Hm : Hp} {s s' : Shared} {cs : List Addr} {Q : VK} {E : XK} {r : Result} (hc : ∀ c ∈ cs, ∃ o, s.heap.get? c = some o ∧ Hm c = none)
    (h : CR (L2N.CX P w) outer P w Hm s (fun v H' => (∀ c ∈ cs, H' c = none) → Q v H') (fun cls d H' => (∀ c ∈ cs, H' c = none) → E cls d H') r s') : CR (L2N.CX P w) outer P w Hm s Q E r s' := by
  cases r with
  | error e =>
    obtain ⟨a, B, H', cls, d, e1, fl, hok, ub, na, os, ag, hE⟩ := h
    exact ⟨a, B, H', cls, d, e1, fl, hok, ub, na, os, ag, hE fun c h => by
      obtain ⟨o, g, n⟩ := hc c h
      exact ub.free c o g n⟩
  | ok fl =>
    cases fl with
    | ret u =>
      obtain ⟨v, H', os, bare, un, hok, rv, q⟩ := h
      exact ⟨v, H', os, bare, un, hok, rv, q fun c h => by
        obtain ⟨o, g, n⟩ := hc c h
        exact un.free c o g n (by simp)⟩
    | next => exact h
    | brk => exact h
    | cont => exact h
section
variable {X : Cx} {pins : List (Addr × Obj)} {σ : L2.St} {H : Hp} {s : Shared}
/-- what a lambda of the running frame keeps: its cells (wherever they are) are off while it runs, and back behind it -/
def spLam (tb : XK → TE) (fr : List Str) (vals : L2.St) : Hp → VK → XK → Prop := fun H2 Q E => ∀ cs : List Addr, (∀ c ∈ cs, ∃ o, H2 c = some (Pin c o)) → (∀ c ∈ cs, ∀ q, H2 c ≠ some (CodeO c q)) →
  tb (fun cls d H' => (∀ c ∈ cs, H' c = none) → E cls d (mix cs H2 H')) (startF fr [] vals) (mix cs HN H2) (fun v H' => (∀ c ∈ cs, H' c = none) → Q v (mix cs H2 H'))
/-- THE THUNK: a lambda of the running frame, the frame's cells pinned -/
theorem thunk_ofF {F : NF} {body : Expr} {fr : List Str} {js : List Nat} {f : Addr} {k : Nat} {tb : XK → TE} (I : Inv X pins σ H s) (hf : H f = some (LamO f F body)) (hc : H F.c = some (CodeO F.c F.qual)) (cp : Caps X F.cl fr js) (S : NScope fr [] fr F.scope)
    (hbind : ∀ (pm cv ctv : Value), bindArgs (PySem.W.kla_fn "<lambda>" F.qual F.params body F.scope F.cl pm cv ctv) ⟨[], []⟩ = pure [])
    (hbody : ∀ (A : Around) (outer : List Env) (s : Shared) (H : Hp) (E : XK), Room k (A.deeper (envF F f s.heap.objs.size)) → PE (ncx (L2N.CX X.prog X.w) X.prog X.w X.K X.mg X.base fr F f A outer s H E) body (tb E)) :
    Thunk X.prog X.w X.K X.mg X.base (k + 1) (pinH (celA X.env.cells) s.heap H) f
      (spLam tb fr (js.map (slotAt σ))) := by
  have sub : ∀ c ∈ celA F.cl, c ∈ celA X.env.cells := fun c h => by
    obtain ⟨y, e⟩ := mem_celA.mp h
    exact mem_celA.mpr ⟨y, cp.sub y c e⟩
  have keepP : ∀ b φ, H b = some (.ext φ) → pinH (celA X.env.cells) s.heap H b = some (.ext φ) := fun b φ e => by
    have nb : b ∉ celA X.env.cells := fun z => by rw [cel_free I z] at e; cases e
    rw [pinH_out nb]
    exact e
  refine ⟨fun H2 h a hok => ?_, fun H2 a A outer s2 Q E hr e0 hq => ?_⟩
  · obtain ⟨pm, ctv, e⟩ := lamO_at hok (a f _ (keepP f _ hf))
    exact ⟨_, _, _, _, e⟩
  · have hp : ∀ c ∈ celA F.cl, ∃ o, H2 c = some (Pin c o) ∧ s.heap.get? c = some o := fun c h => by
      obtain ⟨o, v, g, _⟩ := cel_obj I (sub c h)
      exact ⟨o, a c _ (pinH_in (sub c h) g), g⟩
    have hp' : ∀ c ∈ celA F.cl, ∃ o, H2 c = some (Pin c o) := fun c h => by
      obtain ⟨o, e, _⟩ := hp c h
      exact ⟨o, e⟩
    have hq := hq (celA F.cl) hp' (fun c hc q z => by
      obtain ⟨o, v, g, d⟩ := cel_obj I (sub c hc)
      obtain ⟨o', e', g'⟩ := hp c hc
      rw [g] at g'
      cases g'
      have h1 := pin_at e0.hok e'
      obtain ⟨⟨oc, vs, t, h2, h3, _⟩, _, _⟩ := e0.hok c _ z
      rw [h1] at h2
      cases h2
      rw [d] at h3
      cases h3)
    have e1 := env0_unpin e0 hp'
    have cellK : ∀ {y : Str} {c : Addr} {v : Option Value}, F.cl.lookup y = some c → s.heap.IsCell c v → s2.heap.IsCell c v := fun {y c v} e ⟨o, g, d⟩ => by
      obtain ⟨o', e', g'⟩ := hp c (mem_celA.mpr ⟨y, e⟩)
      rw [g] at g'
      cases g'
      exact ⟨o, pin_at e0.hok e', d⟩
    have C0 := cells_of I cp
    have C : CellsAt F.cl fr (js.map (slotAt σ)) s2.heap (mix (celA F.cl) HN H2) := by
      refine ⟨C0.len, fun y c e => ?_, C0.inj, fun i y e => ?_⟩
      · obtain ⟨_, v, z⟩ := C0.all y c e
        exact ⟨mix_in (mem_celA.mpr ⟨y, e⟩), v, cellK e z⟩
      · obtain ⟨c, hc, hv⟩ := C0.has i y e
        refine ⟨c, hc, fun v ev => ?_⟩
        obtain ⟨u, r, z⟩ := hv v ev
        exact ⟨u, r, cellK hc z⟩
    refine codeAny_mono ?_ fun r s' hq' => cr_repin e0 hp' (cr_free (fun c hc => by obtain ⟨o, e⟩ := hp' c hc; exact ⟨o, pin_at e0.hok e, mix_in hc⟩) hq')
    have lim : s2.heap.NoLimit := e1.mod.nolimit.keeps fun b o e => (e1.bs b o e).1
    obtain ⟨pm, ctv, ho⟩ := lamO_at e0.hok (a f _ (keepP f _ hf))
    have hco := codeO_at e0.hok (a F.c _ (keepP F.c _ hc))
    refine PySem.W.kla_callFunE hr.depth ho rfl S.co S.gen rfl hco ?_
    rw [hbind]
    refine wpAny_pure (wpAny_newFunctionEnv S.nocell (fun y hy => absurd hy (by simp)) (fun h₁ hns hsb => ⟨lim.fresh _ hsb, ?_⟩) S.kind)
    show codeAny _ _ (.expr body (envF F f s2.heap.objs.size)) _ _
    have kp : ∀ b o, s2.heap.get? b = some o → h₁.get? b = some o := fun b o e => hsb.extBut b o (Nat.ne_of_lt (Heap.lt_size e)) (Heap.get?_push_of_some _ e)
    have J : Inv (ncx (L2N.CX X.prog X.w) X.prog X.w X.K X.mg X.base fr F f A outer s2 (mix (celA F.cl) HN H2) (fun cls d H' => (∀ c ∈ celA F.cl, H' c = none) → E cls d (mix (celA F.cl) H2 H'))) [] (startF fr [] (js.map (slotAt σ))) (mix (celA F.cl) HN H2) { s2 with heap := h₁, toks := s2.toks + ([] : List (Str × Value)).length } :=
      inv_startN (us := []) (vs := []) S hr.hd e1 rfl .nil C hns kp
    refine PySem.W.kla_codeExpr (wpAny_mono ((hbody A outer s2 _ _ (hr.deeper _)).run [] _ _ _ _ J hq) (fun v s' hq2 => ?_) fun e s' hq2 => hq2)
    obtain ⟨w', H', J', rv, q⟩ := hq2
    exact ⟨w', H', J'.os, J'.bare, J'.base, J'.hok, rv, q⟩
end
end LV
end
section
set_option Elab.async false
set_option linter.all false
set_option maxRecDepth 100000
set_option maxHeartbeats 2000000
/-! while an exception is handled: a list's end, a tuple unpacked, a list comprehension -/
namespace LHot
open PySem PySem.Spec PyProof.Rows HotX
section
variable {prog : Program} {w : World} {A : Around} {E : Value → Shared → Prop} {s : Shared}
theorem pyNext_list_end_hot {it l x1 : Addr} {i : Nat} {items} {Q : Option Value → Shared → Prop} (hot : HotAt A x1 s.heap) (hne : x1 ≠ it)
    (hit : s.heap.IsListIter it l i) (hl : s.heap.IsList l items) (hx : items[i]? = none)
    (hQ : ∀ h', Heap.ExtBut it s.heap h' → Q none { s with heap := h' }) : wpAny (model prog w) A (pyNext (.ref it)) Q E s := by
  obtain ⟨o, ho, hc, hd⟩ := id hit
  obtain ⟨ol, hol, _, nl, hdl⟩ := hl
  obtain ⟨hh, o1, vs1, h1, d1, c1⟩ := hot
  unfold pyNext
  refine wpAny_bind (wpAny_attempt (wpAny_callSpecial?_slot (name := Str.ofString "__next__") hit.typeIs slot_listiter_next
    (wpAny_call_entry slot_listiter_next hit.typeIs entry_listiter_next ?_ (args_listiter_next _))))
  show wpAny _ _ (field (.ref it) 0 >>= _) _ _ s
  refine wpAny_bind (wpAny_field ho hd (x := .ref l) rfl ?_)
  show wpAny _ _ (if (Value.ref l == Value.none) = true then _ else _) _ _ s
  rw [if_neg (show ¬ ((Value.ref l == Value.none) = true) from Bool.false_ne_true)]
  show wpAny _ _ (field (.ref it) 1 >>= _) _ _ s
  refine wpAny_bind (wpAny_field ho hd (x := .int i 0) rfl ?_)
  show wpAny _ _ (seqItems? (.ref l) >>= _) _ _ s
  refine wpAny_bind (wpAny_seqItems hol hdl ?_)
  simp only [Int.toNat_natCast, hx]
  refine wpAny_bind (wpAny_rule (wpAny_bind (wpAny_setField ho hd (by simp) ?_)))
  have hu : ∀ b o, b ≠ it → s.heap.get? b = some o → (s.heap.update it (Obj.mapFields (·.setIfInBounds 0 .none))).get? b = some o := fun b o hb e => by
    rw [Heap.get?_update_other _ _ (Ne.symm hb)]; exact e
  show wpAny _ _ (newExc (.type "StopIteration") [] >>= _) _ _ _
  refine wpAny_bind ?_
  simp only [newExc, newTuple]
  refine wpAny_bind (wpAny_newObj_type ?_ (by size_fits))
  refine wpAny_bind (m := firstArgMember _ _) (wpAny_of_eq (a := Value.none) (by first | rfl | (simp only [firstArgMember]; rfl)) ?_)
  refine wpAny_newObj_type ?_ (by size_fits)
  have h1' := Heap.get?_push_of_some { cls := .type "tuple", data := .seq ([] : List Value).toArray } (hu x1 o1 hne h1)
  refine raiseNew_hot ⟨hh, o1, vs1, Heap.get?_push_of_some _ (Heap.get?_push_of_some _ (hu x1 o1 hne h1)), d1, c1⟩ (Nat.ne_of_lt (Heap.lt_size (Heap.get?_push_of_some _ (hu x1 o1 hne h1)))) (Heap.get?_push_size _ rfl) rfl (by first | (simp; done) | (simp; omega) | (simp only [Array.size_append]; simp; omega)) ?_
  refine wpAny_bind (wpAny_isInstance (T := "StopIteration") (b := true) ⟨_, Heap.get?_update_self _ (Heap.get?_push_size _ rfl) rfl, rfl⟩ isSubtype_stop ?_)
  refine wpAny_pure (hQ _ fun b o hb e => ?_)
  rw [Heap.get?_update_other _ _ (Nat.ne_of_gt (Heap.lt_size (Heap.get?_push_of_some _ (hu b o hb e))))]
  exact Heap.get?_push_of_some _ (Heap.get?_push_of_some _ (hu b o hb e))
theorem next_tuple_end_hot {it t x1 : Addr} {i : Nat} {items} {Q : Option Value → Shared → Prop} (hot : HotAt A x1 s.heap) (hne : x1 ≠ it)
    (hit : IsTupIter s.heap it t i) (ht : IsTup s.heap t items) (hx : items[i]? = none)
    (hQ : ∀ h', Heap.ExtBut it s.heap h' → Q none { s with heap := h' }) : wpAny (model prog w) A (pyNext (.ref it)) Q E s := by
  obtain ⟨o, ho, hc, hd⟩ := id hit
  obtain ⟨ol, hol, _, nl, hdl⟩ := ht
  obtain ⟨hh, o1, vs1, h1, d1, c1⟩ := hot
  unfold pyNext
  refine wpAny_bind (wpAny_attempt (wpAny_callSpecial?_slot (name := Str.ofString "__next__") hit.typeIs slot_tupleiter_next
    (wpAny_call_entry slot_tupleiter_next hit.typeIs entry_tupleiter_next ?_ (args_tupleiter_next _))))
  show wpAny _ _ (field (.ref it) 0 >>= _) _ _ s
  refine wpAny_bind (wpAny_field ho hd (x := .ref t) rfl ?_)
  show wpAny _ _ (if (Value.ref t == Value.none) = true then _ else _) _ _ s
  rw [if_neg (show ¬ ((Value.ref t == Value.none) = true) from Bool.false_ne_true)]
  show wpAny _ _ (field (.ref it) 1 >>= _) _ _ s
  refine wpAny_bind (wpAny_field ho hd (x := .int i 0) rfl ?_)
  show wpAny _ _ (seqItems? (.ref t) >>= _) _ _ s
  refine wpAny_bind (wpAny_seqItems hol hdl ?_)
  simp only [Int.toNat_natCast, hx]
  refine wpAny_bind (wpAny_rule (wpAny_bind (wpAny_setField ho hd (by simp) ?_)))
  have hu : ∀ b o, b ≠ it → s.heap.get? b = some o → (s.heap.update it (Obj.mapFields (·.setIfInBounds 0 .none))).get? b = some o := fun b o hb e => by
    rw [Heap.get?_update_other _ _ (Ne.symm hb)]; exact e
  show wpAny _ _ (newExc (.type "StopIteration") [] >>= _) _ _ _
  refine wpAny_bind ?_
  simp only [newExc, newTuple]
  refine wpAny_bind (wpAny_newObj_type ?_ (by size_fits))
  refine wpAny_bind (m := firstArgMember _ _) (wpAny_of_eq (a := Value.none) (by first | rfl | (simp only [firstArgMember]; rfl)) ?_)
  refine wpAny_newObj_type ?_ (by size_fits)
  refine raiseNew_hot ⟨hh, o1, vs1, Heap.get?_push_of_some _ (Heap.get?_push_of_some _ (hu x1 o1 hne h1)), d1, c1⟩ (Nat.ne_of_lt (Heap.lt_size (Heap.get?_push_of_some _ (hu x1 o1 hne h1)))) (Heap.get?_push_size _ rfl) rfl (by first | (simp; done) | (simp; omega) | (simp only [Array.size_append]; simp; omega)) ?_
  refine wpAny_bind (wpAny_isInstance (T := "StopIteration") (b := true) ⟨_, Heap.get?_update_self _ (Heap.get?_push_size _ rfl) rfl, rfl⟩ isSubtype_stop ?_)
  refine wpAny_pure (hQ _ fun b o hb e => ?_)
  rw [Heap.get?_update_other _ _ (Nat.ne_of_gt (Heap.lt_size (Heap.get?_push_of_some _ (hu b o hb e))))]
  exact Heap.get?_push_of_some _ (Heap.get?_push_of_some _ (hu b o hb e))
theorem unpackItems_tuple_hot {t x1 : Addr} {items : Array Value} {Q : List Value → Shared → Prop} (hot : HotAt A x1 s.heap) (ht : IsTup s.heap t items)
    (hQ : ∀ h', Heap.ExtBut s.heap.objs.size s.heap h' → Q items.toList { s with heap := h' }) : wpAny (model prog w) A (unpackItems (.ref t) items.size none) Q E s := by
  have hlt : t ≠ s.heap.objs.size := by obtain ⟨o, ho, _⟩ := ht; exact Nat.ne_of_lt (Heap.lt_size ho)
  obtain ⟨hh, o1, vs1, h1, d1, c1⟩ := hot
  have hlx : x1 ≠ s.heap.objs.size := Nat.ne_of_lt (Heap.lt_size h1)
  unfold unpackItems
  refine wpAny_bind ?_
  · unfold notIterableAtAll
    refine wpAny_bind (wpAny_specialOf ht.typeIs slot_tuple_iter.lookup ?_)
    refine wpAny_pure ?_
    simp only [Bool.false_eq_true, if_false]
    refine wpAny_bind (wpAny_holding (iter_tuple ht ?_))
    refine wpAny_bind (wpAny_holding (draw_tuple hlt items.size 0 _ _ ⟨_, Heap.get?_push_size _ rfl, rfl, rfl⟩ (ht.push _) (by omega) fun h₁ hit₁ hs₁ => ?_))
    have hall : List.take items.size (List.drop 0 items.toList) = items.toList := by
      rw [List.drop_zero]; exact List.take_of_length_le (by simp)
    rw [hall]
    rw [if_neg (by simp)]
    have ht₁ : IsTup h₁ t items := (ht.push _).extBut hs₁.extBut hlt
    refine wpAny_bind (wpAny_holding (next_tuple_end_hot ⟨hh, o1, vs1, hs₁.extBut x1 o1 hlx (Heap.get?_push_of_some _ h1), d1, c1⟩ hlx hit₁ ht₁ (by simp) fun h₂ he₂ => ?_))
    simp only [Option.isSome_none, Bool.false_eq_true, if_false]
    refine wpAny_pure (hQ h₂ fun b o hb e => he₂ b o hb (hs₁.extBut b o hb (Heap.get?_push_of_some _ e)))
theorem assign_Tuple_tuple_hot {env : Env} {elts : List Expr} {n1} {pos : Pos} {t x1 : Addr} {items : Array Value} {Q : Unit → Shared → Prop} (hot : HotAt A x1 s.heap) (ht : IsTup s.heap t items)
    (hn : (assignEach elts env).length = items.size) (hstar : (assignEach elts env).findIdx? (·.1) = none)
    (h : ∀ h', Heap.ExtBut s.heap.objs.size s.heap h' → wpAny (model prog w) A (assignInOrder ((assignEach elts env).map (·.2)) items.toList) Q E { s with heap := h' }) :
    wpAny (model prog w) A (assign (.Tuple elts n1 pos) env (.ref t)) Q E s := by
  rw [assign_Tuple]
  refine wpAny_bind (wpAny_standAt ?_)
  unfold unpack
  rw [hn, hstar]
  exact wpAny_bind (wpAny_holding (unpackItems_tuple_hot hot ht h))
end
end LHot
end
section
set_option Elab.async false
set_option linter.all false
set_option maxRecDepth 100000
set_option maxHeartbeats 4000000
/-! a list comprehension over a list, while an exception is handled -/
namespace LHot
open PySem PySem.Spec PyProof.Rows HotX L2 L2H
abbrev St := L2.St
/-- wherever X stands, the exception that is handled stands there, its context None -/
def HotB (X : Cx) : Prop := ∀ (pins : List (Addr × Obj)) (σ : St) (H : Hp) (s : Shared), Inv X pins σ H s → ∃ x1, HotAt X.A x1 s.heap ∧ H x1 = none ∧ x1 ∉ frs X.stack ∧ ∀ b, FpOk X pins H b → x1 ≠ b
theorem hotB_of {X : Cx} (c : HotC X) : HotB X := fun pins σ H s I => by
  obtain ⟨p, ⟨hh, v1, e1, c1⟩, hp⟩ := c
  have P := I.pin p (List.mem_append_left _ hp)
  exact ⟨p.1, ⟨hh, p.2, v1, P.1, e1, c1⟩, P.2.1, fun hm => (List.mem_cons.mp (I.stkSub p.1 hm)).elim P.2.2.1 P.2.2.2.1, fun b f => f.2.2.2.2.2 p (List.mem_append_left _ hp)⟩
theorem hotB_blk {X : Cx} {pins : List (Addr × Obj)} {σ : St} {H : Hp} {s : Shared} {scope : Scope} {cenv : Env} {fp : List Addr} (hc : HotB X) (I : Inv X pins σ H s) (hfp : ∀ b ∈ fp, FpOk X pins H b ∧ b < s.heap.objs.size) : HotB (X.blk s H scope cenv fp) := fun pins' σ' H' s' J => by
  obtain ⟨x1, ⟨hh, o1, v1, h1, d1, c1⟩, n, nf, ne⟩ := hc pins σ H s I
  have nx : x1 ∉ fp := fun z => ne x1 (hfp x1 z).1 rfl
  refine ⟨x1, ⟨hh, o1, v1, J.base.keep x1 o1 h1 n nf nx, d1, c1⟩, J.base.free x1 o1 h1 n nx, nf, fun b f z => ?_⟩
  subst z
  rcases f.2.2.2.1 with q | q
  · exact nx q
  · exact absurd (Nat.lt_of_lt_of_le (Heap.lt_size h1) q) (Nat.lt_irrefl _)
structure TurnB (P : Program) (w : World) (K : PySem.W.Frag) (tg : Expr) (J : It) (fp : List Addr) (it : Addr) (tn : Nat → Heap → Prop) : Prop where
  mem : it ∈ fp
  obj : ∀ i h, tn i h → ∀ b ∈ fp, ∃ o, h.get? b = some o ∧ ∀ v, o.data ≠ .cell v
  keep : ∀ i h h', tn i h → (∀ b ∈ fp, ∀ o, h.get? b = some o → h'.get? b = some o) → tn i h'
  item : ∀ (X : Cx), X.prog = P → X.w = w → X.K = K → HotB X → ∀ (i : Nat) (pins : List (Addr × Obj)) (s : Shared) (σ : St) (H : Hp) (E : Value → Shared → Prop), Inv X pins σ H s → (∀ b ∈ fp, FpOk X pins H b) → tn i s.heap → J.go i H →
    wpAny (model P w) X.A (pyNext (.ref it)) (fun r s1 => ∃ u, r = some u ∧
      wpAny (model P w) X.A (letOwnedTupleGo tg (.ref it) u) (fun _ s2 => ∃ x H', Inv X pins σ H' s2 ∧ RelV x u ∧ J.yld i H x H' ∧ tn (i + 1) s2.heap ∧ ∀ b ∈ fp, H' b = none) E s1) E s
  done : ∀ (X : Cx), X.prog = P → X.w = w → X.K = K → HotB X → ∀ (i : Nat) (pins : List (Addr × Obj)) (s : Shared) (σ : St) (H : Hp) (E : Value → Shared → Prop), Inv X pins σ H s → (∀ b ∈ fp, FpOk X pins H b) → tn i s.heap → J.stop i H →
    wpAny (model P w) X.A (pyNext (.ref it)) (fun r s1 => r = none ∧ Inv X pins σ H s1) E s
  self : ∀ (A : Around) (i : Nat) (s : Shared) (Q : Value → Shared → Prop) (E : Value → Shared → Prop), tn i s.heap → Q (.ref it) s → wpAny (model P w) A (pyIter (.ref it)) Q E s
def PIEB (X : Cx) (pins : List (Addr × Obj)) (σ : St) (tg : Expr) (R : It → Hp → Prop) (itv : Value) (s2 : Shared) : Prop :=
  ∃ (it : Addr) (fp : List Addr) (tn : Nat → Heap → Prop) (J : It) (H' : Hp), itv = .ref it ∧ Inv X pins σ H' s2 ∧ TurnB X.prog X.w X.K tg J fp it tn ∧ tn 0 s2.heap ∧ (∀ b ∈ fp, FpOk X pins H' b) ∧ R J H'
structure PIB (X : Cx) (tg iter : Expr) (wi : TI) : Prop where
  run : ∀ (pins : List (Addr × Obj)) (s : Shared) (σ : St) (H : Hp) (R : It → Hp → Prop), Inv X pins σ H s → wi σ H R →
    wpAny (model X.prog X.w) X.A (eval iter X.env) (fun v s1 => wpAny (model X.prog X.w) X.A (pyIter v) (PIEB X pins σ tg R) X.xe s1) X.xe s
theorem turn_listB {P : Program} {w : World} {K : PySem.W.Frag} {tg : Expr} (a it : Addr) : TurnB P w K tg (Itl K a) [it] it (fun i h => h.IsListIter it a i) where
  mem := (turn_list (P := P) (w := w) (K := K) (tg := tg) a it).mem
  obj := (turn_list (P := P) (w := w) (K := K) (tg := tg) a it).obj
  keep := (turn_list (P := P) (w := w) (K := K) (tg := tg) a it).keep
  item := by
    intro X hP hw hK _ i pins s σ H E I hf st hg
    subst hP hw hK
    obtain ⟨xs, x, hq, hx⟩ := hg
    obtain ⟨its, rv, p, hz⟩ := I.list hq
    obtain ⟨u, hu, ru⟩ := rv.get hx
    obtain ⟨f0, f1, f2, f3, f4, f5⟩ := hf it (by simp)
    refine wpAny_pyNext_list_item st p.isList (x := u) (by simpa using hu) fun h' st' sb => ?_
    have I1 : Inv X pins σ H { s with heap := h' } := I.turned (t' := s.toks) (fun b o hb e => (sb.2 b hb).trans e) f0 f1 f3 f4 f5
    obtain ⟨o, e, c, d⟩ := id st'
    exact ⟨u, rfl, go_of (s := { s with heap := h' }) e c d (by decide) ⟨x, H, I1, ru, ⟨rfl, fun ys hy => by rw [I.list_inj hy hq]; exact hx⟩, st', fun b hb => (hf b hb).1⟩⟩
  done := by
    intro X hP hw hK hc i pins s σ H E I hf st hg
    subst hP hw hK
    obtain ⟨xs, hq, hx⟩ := hg
    obtain ⟨its, rv, p, hz⟩ := I.list hq
    have fi := hf it (by simp)
    obtain ⟨f0, f1, f2, f3, f4, f5⟩ := id fi
    have hl := rv.length
    obtain ⟨x1, hot, _, _, ne⟩ := hc pins σ H s I
    exact pyNext_list_end_hot hot (ne it fi) st p.isList (by simp; omega) fun h' eb => ⟨rfl, I.turned (t' := s.toks) (fun b o hb e => eb b o hb e) f0 f1 f3 f4 f5⟩
  self := (turn_list (P := P) (w := w) (K := K) (tg := tg) a it).self
section
variable {X : Cx} {tg : Expr}
theorem pi_listB {l : Expr} {tl : TE} (hl : PE X l tl) : PIB X tg l (iList X.K tl) := by
  refine ⟨fun pins s σ H R I h => ?_⟩
  refine thn (hl.run pins s σ H _ I h) fun v s1 ⟨x, H1, I1, r1, q1⟩ => ?_
  obtain ⟨a, e, ⟨xs, hq⟩, q⟩ := q1
  subst e
  cases r1
  obtain ⟨its, rv, p, hz⟩ := I1.list hq
  refine wpAny_pyIter_list p.isList ?_
  refine ⟨s1.heap.objs.size, [s1.heap.objs.size], _, _, H1, rfl, I1.kept (t' := s1.toks) fun b o e => Heap.get?_push_of_some _ e, turn_listB a _, ⟨_, Heap.get?_push_size _ rfl, rfl, rfl⟩, fun b hb => ?_, q⟩
  have e : b = s1.heap.objs.size := by simpa using hb
  subst e
  exact I1.fpOk (Nat.le_refl _) (I1.hok.fresh (Nat.le_refl _))
theorem pg_tupB {es : List Expr} {k : Nat} {t : TGs} {n : Nat} {pos : Pos} (hc : HotB X) (h : PGs X es t)
    (hn : (assignEach es X.env).length = n := by rfl) (hst : (assignEach es X.env).findIdx? (·.1) = none := by rfl) : PG X (.Tuple es k pos) (gTup X.K n t) := by
  refine ⟨fun pins s σ H v u Q I r hw => ?_⟩
  obtain ⟨a, xs, e1, hq, hl, hw⟩ := hw
  subst e1
  cases r
  obtain ⟨its, rv, ht, hz⟩ := I.tuple hq
  obtain ⟨x1, hot, _, _, _⟩ := hc pins σ H s I
  refine assign_Tuple_tuple_hot hot ht (by simp [hn, ← hl, rv.length]) hst fun h' hx => ?_
  have I1 : Inv X pins σ H { s with heap := h' } := I.kept (t' := s.toks) fun b o e => hx b o (Nat.ne_of_lt (Heap.lt_size e)) e
  exact h.run pins _ σ H xs _ Q I1 (by simpa using rv) hw
end
section
variable {X : Cx}
theorem lc_hot {pins : List (Addr × Obj)} {s : Shared} {σ : St} {H : Hp} {Q : VK} {elt tg iter : Expr} {ifs : List Expr} {scope : Scope} {own : List (Str × Nat)} {pos pos' : Pos} {wi : TI} {g : TG} {tt : TT} {te : TE} {use : Option (Value → Sem Unit)} {Qf : Value → Shared → Prop}
    (hc : HotB X) (hN : X.N.Nodup) (I : Inv X pins σ H s) (hi : PIB X tg iter wi) (ok : BlkOk X.N X.env.scope scope own)
    (hg : ∀ (s : Shared) (H : Hp) (C : Addr) (cl : List (Str × Addr)) (fp : List Addr), HotB (X.blk s H scope (compEnvC scope cl C X.env) fp) → PG (X.blk s H scope (compEnvC scope cl C X.env) fp) tg g) (ht : ∀ (s : Shared) (H : Hp) (C : Addr) (cl : List (Str × Addr)) (fp : List Addr), PTs (X.blk s H scope (compEnvC scope cl C X.env) fp) ifs tt)
    (he : ∀ (s : Shared) (H : Hp) (C : Addr) (cl : List (Str × Addr)) (fp : List Addr), PE (X.blk s H scope (compEnvC scope cl C X.env) fp) elt te) (hs : ∀ x, foldedSetIterable iter X.env x = pure x)
    (h : tLc wi g tt te (own.map (·.2)) σ H Q)
    (hRR : ∀ D C s' m H', Inv X pins σ H' s' → Q (.ref D) H' → s'.heap.Ns C m → FpOk X pins H' C → compPost (model X.prog X.w) X.A X.xe use Qf (.ref D) C (.ok .next) s') :
    wpAny (model X.prog X.w) X.A (comprehension (.ListComp elt [⟨tg, iter, ifs, 0⟩] scope pos) scope X.env pos' (newList []) false (eval iter X.env) use) Qf X.xe s := by
  have hfree : ∀ y ∈ scope.names, y.2 = .free → ∃ c, X.env.cells.lookup y.1 = some c := fun y hy e => by
    rcases ok.free y hy e with k | k
    · exact I.ok.has _ (.inl k)
    · exact I.ok.has _ (.inr k)
  refine wpAny_comprehension_free (use := use) rfl hs (closure_ok hfree) ok.kind (fun y hy e => by rw [ok.uniq y hy, e])
    (thn (hi.run pins s σ H _ I h) fun xv s1 hx => thn hx fun itv s2 h2 => ?_)
  obtain ⟨it, fp, tn, J, H2, e, I2, T, st2, f2, q⟩ := h2
  subst e
  refine wpAny_newObj_type (newEnv_comp ?_) (by show 0 ≤ sizeLine; decide)
  generalize hD : s2.heap.objs.size = D
  have hDn : H2 D = none := I2.hok.fresh (Nat.le_of_eq hD)
  obtain ⟨W, ⟨m0, w0⟩, turn⟩ := q D hDn
  -- the new list
  generalize hs3 : ({ s2 with heap := s2.heap.push { cls := .type "list", data := .seq ([] : List Value).toArray } } : Shared) = s3
  have I3 : Inv X pins σ (upd H2 D (.lst [])) s3 := by
    rw [← hs3]
    refine I2.laid (t' := s2.toks) (fun b o e => Heap.get?_push_of_some _ e) (Nat.le_of_eq hD) ⟨Nat.zero_le _, [], 0, .nil, ?_⟩
    rw [← hD]
    exact Heap.get?_push_size _ rfl
  have h3 : s3.heap = s2.heap.push { cls := .type "list", data := .seq ([] : List Value).toArray } := by rw [← hs3]
  have sz : ∀ b ∈ fp, b < s2.heap.objs.size := fun b hb => by
    obtain ⟨o, e, _⟩ := T.obj _ _ st2 b hb
    exact Heap.lt_size e
  have f3 : ∀ b ∈ fp, FpOk X pins (upd H2 D (.lst [])) b ∧ b < s3.heap.objs.size := fun b hb => by
    have hlt := sz b hb
    refine ⟨⟨?_, (f2 b hb).2⟩, by rw [h3, Heap.size_push]; exact Nat.lt_succ_of_lt hlt⟩
    rw [upd_ne (by rw [← hD]; exact Nat.ne_of_lt hlt)]
    exact (f2 b hb).1
  have st3 : tn 0 s3.heap := T.keep _ _ _ st2 fun b _ o e => by rw [h3]; exact Heap.get?_push_of_some _ e
  have I4 := block_start I3 ok hN f3
  have hb := hotB_blk (scope := scope) (cenv := compEnvC scope (cellsFrom (s3.heap.objs.size + 1) scope.names (cloFrom X.env.cells scope.names [])) s3.heap.objs.size X.env) hc I3 f3
  have pg := hg s3 (upd H2 D (.lst [])) s3.heap.objs.size (cellsFrom (s3.heap.objs.size + 1) scope.names (cloFrom X.env.cells scope.names [])) fp hb
  have pt := ht s3 (upd H2 D (.lst [])) s3.heap.objs.size (cellsFrom (s3.heap.objs.size + 1) scope.names (cloFrom X.env.cells scope.names [])) fp
  have pe := he s3 (upd H2 D (.lst [])) s3.heap.objs.size (cellsFrom (s3.heap.objs.size + 1) scope.names (cloFrom X.env.cells scope.names [])) fp
  show codeAny _ _ (.compStart (.ListComp elt [⟨tg, iter, ifs, 0⟩] scope pos) 0 (.ref it) (.ref D) (compEnvC scope (cellsFrom (s3.heap.objs.size + 1) scope.names (cloFrom X.env.cells scope.names [])) s3.heap.objs.size X.env)) (compPost (model X.prog X.w) X.A X.xe use Qf (.ref D) s3.heap.objs.size) { s3 with heap := pushCells (s3.heap.push { cls := .type "dict", data := .dict #[] }) scope.names }
  have nfp : ∀ b ∈ fp, (upd H2 D (.lst [])) b = none := fun b hb => (f3 b hb).1.1
  generalize hce : compEnvC scope (cellsFrom (s3.heap.objs.size + 1) scope.names (cloFrom X.env.cells scope.names [])) s3.heap.objs.size X.env = ce at I4 pg pt pe hb ⊢
  have cL : ce.locals = s3.heap.objs.size := by subst hce; rfl
  generalize hH3 : upd H2 D (.lst []) = H3 at I3 I4 pg pt pe hb w0 nfp f3
  generalize hs4 : ({ s3 with heap := pushCells (s3.heap.push { cls := .type "dict", data := .dict #[] }) scope.names } : Shared) = s4 at I4 ⊢
  have st4 : tn 0 s4.heap := T.keep _ _ _ st3 fun b _ o e => by rw [← hs4]; exact pushCells_keeps _ _ _ _ (Heap.get?_push_of_some _ e)
  have stat : ∀ {σ' : St} {H' : Hp} {s' : Shared}, Inv (X.blk s3 H3 scope ce fp) [] σ' H' s' → (∀ b ∈ fp, H' b = none) → ∀ b ∈ fp, FpOk (X.blk s3 H3 scope ce fp) [] H' b := fun {σ' H' s'} I' hn b hb =>
    ⟨hn b hb, (I'.ok.exf b hb).1, I'.ok.exfs b hb, .inl hb, fun x c e => (I'.ok.exf b hb).2 x c e, fun p hp => absurd (show p ∈ ([] : List (Addr × Obj)) ++ [] from hp) (by simp)⟩
  have loop : codeAny (model X.prog X.w) X.A (.compLoop (.ListComp elt [⟨tg, iter, ifs, 0⟩] scope pos) 0 (.ref it) (.ref D) ce) (compPost (model X.prog X.w) X.A X.xe use Qf (.ref D) s3.heap.objs.size) s4 := by
    refine compLoop_any (fun n s' => ∃ i H', Inv (X.blk s3 H3 scope ce fp) [] (wipe σ (own.map (·.2))) H' s' ∧ tn i s'.heap ∧ (∀ b ∈ fp, H' b = none) ∧ W i n H') ?_ m0 ⟨0, H3, I4, st4, nfp, w0⟩
    rintro n s5 ⟨i, H5, I5, st5, n5, w5⟩
    rcases turn i n H5 w5 with ⟨stop, qq⟩ | ⟨go, Nx, hNx, step⟩
    · have td := T.done (X.blk s3 H3 scope ce fp) rfl rfl rfl hb i [] s5 _ H5 (fun _ _ => False) I5 (stat I5 n5) st5 stop
      refine thnF td fun r s6 ⟨hr, I6⟩ => ?_
      subst hr
      -- back in the def's context
      have I7 : Inv X pins σ H5 s6 := I3.call' (ch := fp) I6.os I6.base I6.hok I6.bare fun b hb => ⟨(f3 b hb).1.2.2.2.1, (f3 b hb).1.2.1, (f3 b hb).1.2.2.2.2.1, (f3 b hb).1.2.2.2.2.2⟩
      have nC : H5 s3.heap.objs.size = none := by
        have z : H5 ce.locals = none := I6.free
        rw [cL] at z
        exact z
      obtain ⟨m, hn, _⟩ := I6.loc
      have hn : s6.heap.Ns ce.locals m := hn
      rw [cL] at hn
      exact hRR D s3.heap.objs.size s6 m H5 I7 qq hn (I3.fpOk (Nat.le_refl _) nC)
    · have ti := T.item (X.blk s3 H3 scope ce fp) rfl rfl rfl hb i [] s5 _ H5 (fun _ _ => False) I5 (stat I5 n5) st5 go
      refine thnF ti fun r s6 ⟨u, hr, h6⟩ => ?_
      subst hr
      refine thnF h6 fun _ s7 ⟨x, H7, I7, r7, y7, st7, n7⟩ => ?_
      have I7' := I7.pinned (stat I7 n7) (T.obj _ _ st7)
      refine thnF (pg.run _ s7 _ H7 x u _ I7' r7 (step x H7 y7)) fun _ s8 ⟨σ8, H8, I8, hw8, q8⟩ => ?_
      refine thnF (pt.run _ s8 σ8 H8 _ I8 q8) fun b s9 ⟨H9, I9, q9⟩ => ?_
      -- the turn's end
      have fin : ∀ {s' : Shared} {H' : Hp}, Inv (X.blk s3 H3 scope ce fp) ([] ++ pinsAt fp s7.heap) σ8 H' s' → Nx H' → ∃ m, m < n ∧ ∃ i H', Inv (X.blk s3 H3 scope ce fp) [] (wipe σ (own.map (·.2))) H' s' ∧ tn i s'.heap ∧ (∀ b ∈ fp, H' b = none) ∧ W i m H' := fun {s' H'} I' nx => by
        obtain ⟨m', hm, w'⟩ := hNx H' nx
        have pin' : ∀ b ∈ fp, ∀ o, s7.heap.get? b = some o → s'.heap.get? b = some o ∧ H' b = none := fun b hb o e =>
          let z := I'.pin (b, o) (List.mem_append_right _ (List.mem_append_right _ (mem_pinsAt hb e)))
          ⟨z.1, z.2.1⟩
        have hl : (wipe σ (own.map (·.2))).length = σ8.length := by rw [← hw8, wipe_length]
        refine ⟨m', hm, i + 1, H', (I'.unpinned (pins := [])).weak hl (fun j v e => ?_), T.keep _ _ _ st7 fun b hb o e => (pin' b hb o e).1, fun b hb => ?_, w'⟩
        · rw [← hw8] at e
          exact (wipe_some e).1
        · obtain ⟨o, e, _⟩ := T.obj _ _ st7 b hb
          exact (pin' b hb o e).2
      cases b with
      | false =>
        simp only [Bool.false_eq_true, if_false] at q9 ⊢
        exact fin I9 q9
      | true =>
        simp only [if_true] at q9 ⊢
        refine thnF (pe.run _ s9 σ8 H9 _ I9 q9) fun z s10 ⟨yv, H10, I10, r10, acc, hD10, hz10, nx⟩ => ?_
        exact app_ok (X := X.blk s3 H3 scope ce fp) I10 hD10 hz10 r10 fun s11 I11 => fin I11 nx
  exact codeAny_compStart_list loop (T.self X.A 0 _ _ _ st4 loop)
theorem pe_lcB {elt tg iter : Expr} {ifs : List Expr} {scope : Scope} {own : List (Str × Nat)} {pos : Pos} {wi : TI} {g : TG} {tt : TT} {te : TE} (hc : HotB X) (hN : X.N.Nodup) (hi : PIB X tg iter wi) (ok : BlkOk X.N X.env.scope scope own)
    (hg : ∀ (s : Shared) (H : Hp) (C : Addr) (cl : List (Str × Addr)) (fp : List Addr), HotB (X.blk s H scope (compEnvC scope cl C X.env) fp) → PG (X.blk s H scope (compEnvC scope cl C X.env) fp) tg g) (ht : ∀ (s : Shared) (H : Hp) (C : Addr) (cl : List (Str × Addr)) (fp : List Addr), PTs (X.blk s H scope (compEnvC scope cl C X.env) fp) ifs tt)
    (he : ∀ (s : Shared) (H : Hp) (C : Addr) (cl : List (Str × Addr)) (fp : List Addr), PE (X.blk s H scope (compEnvC scope cl C X.env) fp) elt te) (hs : ∀ x, foldedSetIterable iter X.env x = pure x := by intro _; rfl) :
    PE X (.ListComp elt [⟨tg, iter, ifs, 0⟩] scope pos) (tLc wi g tt te (own.map (·.2))) := by
  refine ⟨fun pins s σ H Q I h => ?_⟩
  rw [eval_ListComp]
  refine lc_hot hc hN I hi ok hg ht he hs h fun D C s' m H' I' q hn f => ⟨m, hn, fun h'' sb => ?_⟩
  obtain ⟨f0, f1, f2, f3, f4, f5⟩ := f
  exact ⟨.ref D, H', I'.turned (t' := s'.toks) (fun b o hb e => (sb.2 b hb).trans e) f0 f1 f3 f4 f5, rfl, q⟩
end
end LHot
end
section
set_option Elab.async false
set_option linter.all false
set_option maxRecDepth 100000
set_option maxHeartbeats 4000000
/-! the exception that is handled, handed to defs of one's own: isinstance, its fields -/
namespace PySem.W
open PySem PySem.Spec PySem.Calls PyProof.Rows
section
variable {prog : Program} {w : World} {A : Around} {E : Value → Shared → Prop} {s : Shared} {K : Frag} {x D : Addr} {ox : Obj}
theorem findObj_dataX {C : Addr} {od : Option Obj} {name : Str} {a g : Value} (hc : (clsIn K C).isSome = true) (ha : findIn K (.ref C) name = some (some a)) (hg : specialIn K a "__get__" = some (some g)) (ht : takesIn K a = some true) : findObj K C od name = some (.bind g a) := by
  obtain ⟨cd, hc⟩ := Option.isSome_iff_exists.mp hc
  simp [findObj, hc, ha, hg, ht]
theorem kin_classX {od : Option Obj} {Q : Option Value → Shared → Prop} (hga : findIn K (.ref D) "__getattribute__" = some (some (.builtin "BaseException.__getattribute__"))) (hgt : findIn K (.ref D) "__getattr__" = some none) (hsub : subIn K (.ref D) (.type "BaseException") = some true)
    (hdct : hasDictIn K D = true) (ha : findIn K (.ref D) "__class__" = some (some (.builtin "object.__class__")))
    (hn : specialIn K (.builtin "object.__class__") "__get__" = some (some (.builtin "getset_descriptor.__get__"))) (htk : takesIn K (.builtin "object.__class__") = some true) (hm : mroIn K D (.type "object") = some true)
    (X : K.In s.heap) (I : InstAt s.heap x ox D od) (h : Q (some (.ref D)) { s with toks := s.toks + 1 }) : wpAny (model prog w) A (getAttr? (.ref x) "__class__") Q E s := by
  have hf : findObj K D od "__class__" = some (.bind (.builtin "getset_descriptor.__get__") (.builtin "object.__class__")) := findObj_dataX (by obtain ⟨cd, hc, _⟩ := any_some hdct; rw [hc]; rfl) ha hn htk
  obtain ⟨hp, g, d, t, os⟩ := s
  have L0 := I.type (M := model prog w)
  have L1 := looks_findIn (M := model prog w) X hga
  have L2 := looks_findIn (M := model prog w) X hgt
  have L3 := looks_find (M := model prog w) X I hf
  have sub : Looks (model prog w) hp (isInstance (.ref x) (.type "BaseException")) true := L0.andThen (looks_subIn X hsub)
  have hx0 : (false && onTheHeap (Value.builtin "BaseException.__getattribute__")) = false := rfl
  have hx2 : (Value.builtin "BaseException.__getattribute__" == Value.builtin "object.__getattribute__") = false := by decide +kernel
  have hx1 : (onTheHeap (Value.ref D) && Value.builtin "BaseException.__getattribute__" == Value.builtin "object.__getattribute__") = false := by rw [hx2]; rfl
  unfold getAttr? getAttrBy? getAttrBy
  refine wpAny_bind (wpAny_mkText (wpAny_bind (wpAny_attempt (wpAny_holding (wpAny_bind (L0.at (wpAny_bind (L1.at ?_))))))))
  show wpAny _ _ (if (onTheHeap (Value.ref D) && Value.builtin "BaseException.__getattribute__" == Value.builtin "object.__getattribute__") = true then _ else _) _ _ _
  rw [hx1, if_neg Bool.false_ne_true]
  unfold getAttrByItsOwn hookBefore
  refine wpAny_bind ?_
  rw [if_pos (show onTheHeap (Value.ref D) = true from rfl)]
  refine L2.at ?_
  refine wpAny_bind (wpAny_attempt (wpAny_holding ?_))
  unfold callGetattribute
  rw [hx0, if_neg Bool.false_ne_true]
  unfold boundAndCalled
  rw [PySem.F.excAttr_ValueError.ga.bind (.ref x)]
  refine wpAny_bind (wpAny_pure ?_)
  show wpAny _ _ (call (.builtin "BaseException.__getattribute__") [.ref x, .str "__class__" t]) _ _ _
  refine wpAny_call (codeAny_call_builtin PySem.F.excAttr_ValueError.ga.plain PySem.F.entry_bexc_ga ?_)
  refine @check_slot (model prog w) _ _ ⟨hp, g, d, t + 1, os⟩ "BaseException.__getattribute__" "BaseException" "__getattribute__" (.ref x) [.str "__class__" t] [] _ (by decide +kernel) (by decide +kernel) sub (PySem.F.args_bexc_ga (.ref x) (.str "__class__" t)) ?_
  unfold Builtin.«object.__getattribute__»
  refine wpAny_bind (wpAny_of_eq (a := ((Value.ref x : Value), [Value.str "__class__" t])) (by first | rfl | (simp only [slotArgs]; rfl)) ?_)
  refine wpAny_bind (wpAny_pure (wpAny_bind (L0.at (wpAny_bind (L3.at ?_)))))
  show wpAny _ _ (holding [Value.builtin "object.__class__"] (call (.builtin "getset_descriptor.__get__") [.builtin "object.__class__", .ref x, .ref D]) >>= ret) _ _ _
  refine wpAny_bind (wpAny_holding (wpAny_call (class_get (s := ⟨hp, g, d, t + 1, os⟩) (ox := ox) (od := od) X I hm ?_)))
  refine wpAny_pure ?_
  show wpAny _ _ (handedOut (.ref D)) _ _ _
  rw [handedOut_of (v := .ref D) rfl]
  first
    | exact wpAny_pure (wpAny_pure h)
    | exact wpAny_pure h
    | exact wpAny_pure (wpAny_bind (wpAny_pure (wpAny_pure h)))
theorem kitx_exc (hga : findIn K (.ref D) "__getattribute__" = some (some (.builtin "BaseException.__getattribute__"))) (hgt : findIn K (.ref D) "__getattr__" = some none) (hsub : subIn K (.ref D) (.type "BaseException") = some true) (hdct : hasDictIn K D = true) (ha : findIn K (.ref D) "__class__" = some (some (.builtin "object.__class__")))
    (hn : specialIn K (.builtin "object.__class__") "__get__" = some (some (.builtin "getset_descriptor.__get__"))) (htk : takesIn K (.builtin "object.__class__") = some true) (hm : mroIn K D (.type "object") = some true) :
    KitX K (.ref x) (.ref D) (fun h => ∃ od, InstAt h x ox D od) where
  ty := fun _ _ _ ⟨_, I⟩ => I.type
  it := fun _ _ X _ => by
    obtain ⟨cdD, hcD, _⟩ := any_some hdct
    unfold clsIn at hcD
    split at hcD
    · rename_i c' d' cd' sl' ho
      intro A' Q' E' s' k q
      unfold isType loadHead
      exact wpAny_bind (wpAny_loadPart (k _ _ (X _ _ ho)) (wpAny_pure q))
    · cases hcD
  ne := fun h tp dd its n sl X htp => by
    obtain ⟨cdD, hcD, _⟩ := any_some hdct
    refine Bool.eq_false_iff.mpr fun q => ?_
    have e : D = tp := Value.ref.inj (beq_iff_eq.mp q)
    subst e
    unfold clsIn at hcD
    split at hcD
    · rename_i c' d' cd' sl' ho
      have z := (X _ _ ho).symm.trans htp
      cases z
    · cases hcD
  ca := fun X ⟨_, I⟩ k => kin_classX hga hgt hsub hdct ha hn htk hm X I k
end
end PySem.W
namespace LX
open PySem PySem.Spec PyProof.Rows L2 L2H HotX LHot
abbrev St := L2.St
/-- the context bears an exception: where, its class, its own dict -/
def PinE (X : Cx) (a : Addr) (cls : Value) (d : Option Addr) : Prop := ∃ oe : Obj, (a, oe) ∈ X.pn ∧ Zc cls d oe ∧ ∃ vs, oe.data = .fields vs
/-- its dict is known -/
def DicK (H : Hp) (d : Option Addr) : Prop := d = none ∨ ∃ (dd : Addr) (fs : List (Str × V)), d = some dd ∧ H dd = some (.xd fs)
theorem pinE_suite {X : Cx} {a : Addr} {oe : Obj} {pn : List (Addr × Obj)} {cls : Value} {d : Option Addr} (z : Zc cls d oe) (f : ∃ vs, oe.data = .fields vs) : PinE (X.suite a ((a, oe) :: pn)) a cls d := ⟨oe, List.mem_cons_self, z, f⟩
section
variable {X : Cx} {pins : List (Addr × Obj)} {σ : St} {H : Hp} {s : Shared} {a : Addr} {D : Addr} {d : Option Addr}
theorem inst_of {oe : Obj} (I : Inv X pins σ H s) (hp : (a, oe) ∈ X.pn) (hz : Zc (.ref D) d oe) (hf : ∃ vs, oe.data = .fields vs) (hd : DicK H d) : ∃ od, PySem.W.InstAt s.heap a oe D od := by
  obtain ⟨hget, _⟩ := I.pin (a, oe) (List.mem_append_left _ hp)
  obtain ⟨vs, hv⟩ := hf
  rcases hd with e | ⟨dd, fs, e, eh⟩
  · refine ⟨none, ?_⟩
    obtain ⟨oc, odi, oda, osl⟩ := oe
    obtain ⟨h1, h2⟩ := hz
    dsimp only at h1 h2 hv
    subst h1 hv
    rw [e] at h2
    subst h2
    exact ⟨hget, rfl, rfl, trivial⟩
  · have hx : ObjOk X.prog X.w H s.heap dd (.xd fs) := I.hok dd _ eh
    obtain ⟨mA, hns, hr⟩ := hx
    obtain ⟨od, ho, hl⟩ := lookIn_ns hns
    refine ⟨some od, hget, hz.1, by unfold PySem.W.notCls; rw [hv] <;> rfl, ?_⟩
    rw [hz.2, e]
    exact ho
/-- isinstance(e, c) -/
def rIsX (K : PySem.W.Frag) (D a : Addr) (d : Option Addr) : List V → Hp → VK → Prop := fun xs H Q => ∃ (c : V) (cv : Value) (b : Bool), xs = [.ref a, c] ∧ ClsV c cv ∧ PySem.W.kitOne K (.ref D) cv = some b ∧ DicK H d ∧ Q (.bl b) H
theorem call_isX (C : ExcC X.K D) (hp : PinE X a (.ref D) d) : CallR X (.builtin "isinstance") (rIsX X.K D a d) := by
  intro pins s σ H xs us Q I r h
  obtain ⟨c, cv, b, rfl, hcv, e, hd, q⟩ := h
  obtain ⟨u1, u2, rfl, r1, r2⟩ := vals2 r
  cases r1
  have ec := hcv.eq r2
  subst ec
  obtain ⟨oe, hm, hz, hf⟩ := hp
  exact PySem.W.kia_one (PySem.W.kitx_exc C.hg C.hk C.hs C.hd C.ha C.hn C.ht C.hm) I.kIn (inst_of I hm hz hf hd) e (fun z => nomatch z) fun tk => ⟨.bl b, H, I.kept (t' := tk) fun _ _ z => z, rfl, q⟩
/-- e.f -/
def tXF (a : Addr) (d : Option Addr) (f : Str) (te : TE) : TE := fun σ H Q => te σ H fun x H1 => x = .ref a ∧ ∃ (dd : Addr) (fs : List (Str × V)) (v : V), d = some dd ∧ H1 dd = some (.xd fs) ∧ fs.lookup f = some v ∧ Q v H1
theorem pe_xF {e : Expr} {te : TE} {pos : Pos} {n : Str} (T : XfC X.K D) (hno : PySem.W.findIn X.K (.ref D) n = some none) (hp : PinE X a (.ref D) d) (he : PE X e te) (hb : attributeBase e n X.env (eval e X.env) = eval e X.env := by rfl) :
    PE X (.Attribute e n pos) (tXF a d n te) := by
  refine ⟨fun pins s σ H Q I h => ?_⟩
  refine attr_of hb (thn (he.run pins s σ H _ I h) fun u s1 hh => ?_)
  obtain ⟨x, H1, I1, rx, ex, dd, fs, v, ed, ea, l, q⟩ := hh
  subst ex
  obtain rfl : u = Value.ref a := rx
  obtain ⟨oe, hm, hz, vs, hd⟩ := hp
  obtain ⟨ha, _⟩ := I1.pin (a, oe) (List.mem_append_left _ hm)
  have hx : ObjOk X.prog X.w H1 s1.heap dd (.xd fs) := I1.hok dd _ ea
  obtain ⟨mA, hns, hr⟩ := hx
  obtain ⟨od, ho, hl⟩ := lookIn_ns hns
  obtain ⟨u, hu, ru⟩ := RelO.some_of (v := v) (o := mA n) (by rw [← l]; exact hr n)
  have J : PySem.W.InstAt s1.heap a oe D (some od) := ⟨ha, hz.1, by unfold PySem.W.notCls; rw [hd] <;> rfl, by rw [hz.2, ed]; exact ho⟩
  exact HandSPX.exc_get I1.kIn J T.ga T.gg T.exC (PySem.W.findObj_own T.hdC hno rfl (by rw [hl, hu])) (handed_of ru) ⟨v, H1, I1.tok _, ru, q⟩
end
/-! ### defs that get it -/
/-- a promise that knows the exception that is handled: where, its class, its own dict -/
abbrev SpE := Addr → Value → Option Addr → Sp
structure FnE (P : Program) (w : World) (K : PySem.W.Frag) (mg : Str → Option Value) (base : Heap) (CX : CXT) (k : Nat) (f : Addr) (fd : FuncData) (ps : List Str) (sp : SpE) : Prop where
  len : ∀ a c d vs H Q E, sp a c d vs H Q E → vs.length = ps.length
  run : ∀ (A : Around) (outer : List Env) (s : Shared) (H : Hp) (args : Args) (us : List Value) (vs : List V) (Q : VK) (E : XK) (p : Addr × Obj) (c : Value) (d : Option Addr), RoomH k A → Hot1 A p → Zc c d p.2 → PinOk outer H s p → Env0 P w K mg base A outer s H → BindsTo s fd args (ps.zip us) → Vals vs us → sp p.1 c d vs H Q E →
    codeAny (model P w) A (.call (.ref f) args) (CR CX outer P w H s Q E) s
theorem fn_ofE {CX : CXT} {P : Program} {w : World} {K : PySem.W.Frag} {mg : Str → Option Value} {base : Heap} {k : Nat} {f : Addr} {fd : FuncData} {ps : List Str} {sp : SpE} (len : ∀ a c d vs H Q E, sp a c d vs H Q E → vs.length = ps.length)
    (h : ∀ (p : Addr × Obj) (c : Value) (d : Option Addr), Zc c d p.2 → (∃ vs, p.2.data = .fields vs) → ∀ (sp1 : Sp), sp1 = sp p.1 c d → ∀ (A : Around) (outer : List Env) (s : Shared) (H : Hp) (args : Args) (us : List Value) (vs : List V) (Q : VK) (E : XK), RoomH k A → Hot1 A p → PinOk outer H s p → Env0 P w K mg base A outer s H → BindsTo s fd args (ps.zip us) → Vals vs us → sp1 vs H Q E →
      codeAny (model P w) A (.call (.ref f) args) (CR CX outer P w H s Q E) s) : FnE P w K mg base CX k f fd ps sp :=
  ⟨len, fun A outer s H args us vs Q E p c d hr hot hz hpin e0 hb r q => h p c d hz (by obtain ⟨_, vs, e, _⟩ := hot; exact ⟨vs, e⟩) _ rfl A outer s H args us vs Q E hr hot hpin e0 hb r q⟩
end LX
end
section
set_option Elab.async false
set_option linter.all false
set_option maxRecDepth 100000
set_option maxHeartbeats 4000000
namespace LX
open PySem PySem.Spec PyProof.Rows L2 L2H HotX LHot
section
variable {P : Program} {w : World} {K : PySem.W.Frag} {mg : Str → Option Value} {base : Heap} {x qual : Str} {params : Arguments} {body : List Stmt} {scope : Scope} {dvs : List V} {kws : List (Str × V)} {f : Addr} {fd : FuncData}
/-- THE RULE for a def that gets the handled exception -/
theorem okE {CX : CXT} {N ps : List Str} {k : Nat} {sp : SpE} (F : FunD K x qual params body scope dvs kws f fd) (S : FnScope N ps scope) (len : ∀ a c d vs H Q E, sp a c d vs H Q E → vs.length = ps.length)
    (hbody : ∀ (cdv : Value) (A : Around) (outer : List Env) (s : Shared) (H : Hp) (vs : List V) (Q : VK) (E : XK) (p : Addr × Obj) (c : Value) (d : Option Addr), Hot1 A p → Zc c d p.2 → (∃ vs, p.2.data = .fields vs) → RoomH k (A.deeper (envOfC qual scope s.heap.objs.size f cdv)) → sp p.1 c d vs H Q E →
      ∃ t, PSs (cxH CX P w K mg base N qual scope f cdv A outer s H E p) body t ∧ t { nx := fun _ H' => Q .non H', rt := Q } (L2.start N vs) H) : FnE P w K mg base CX (k + 1) f fd ps sp := by
  obtain ⟨oc, od, dV, kV, doc, pm, an, cdv, ct, osl, rfl, lk, hcd, _, _⟩ := F.ex
  refine ⟨len, fun A outer s H args us vs Q E p c d hr hot hz hpin e0 hb r hsp => ?_⟩
  have hl := len _ _ _ _ _ _ _ hsp
  have KX : K.In s.heap := e0.mod.kin.keeps fun b o e => (e0.bs b o e).1
  have lim : s.heap.NoLimit := e0.mod.nolimit.keeps fun b o e => (e0.bs b o e).1
  have hkind : ∀ y ∈ ps.zip us, scope.names.lookup y.1 = some .local ∨ (scope.names.lookup y.1 = some .cell ∧ ((cellsFrom (s.heap.objs.size + 1) scope.names []).lookup y.1).isSome = true) := fun ⟨n, v⟩ hy => by
    rcases S.par n (List.of_mem_zip hy).1 with q | q
    · exact .inl q
    · exact .inr ⟨q, PySem.W.cellsFrom_some _ _ _ (.inl q)⟩
  refine codeAny_call_function hr.depth (KX _ _ lk) rfl S.co S.gen rfl (PySem.W.codeRec_of KX hcd) (hb _ _ _ _ ?_)
  refine wpAny_newFunctionEnv_cells S.kind hkind fun env he s1 y => ?_
  subst he
  refine ⟨lim.keeps y.toInCall.keep, codeAny_func ?_⟩
  obtain ⟨t, ht, hq⟩ := hbody cdv A outer s H vs Q E p c d hot hz (by obtain ⟨_, vs, e, _⟩ := hot; exact ⟨vs, e⟩) (hr.deeper _) hsp
  have I : Inv (cxH CX P w K mg base N qual scope f cdv A outer s H E p) [] (L2.start N vs) H s1 := inv_startH S hpin e0 hl r y
  refine wpAny_mono (ht.run [] s1 (L2.start N vs) H _ I hq) (fun fl s' hs => ?_) fun e s' hs => hs
  have fin : ∀ {σ' : St} {H' : Hp} {v : V} {u : Value}, Inv (cxH CX P w K mg base N qual scope f cdv A outer s H E p) [] σ' H' s' → RelV v u → Q v H' → CE outer P w H s Q u s' :=
    fun {σ' H' v u} J rv q => ⟨v, H', J.os, J.bare, J.base, J.hok, rv, q⟩
  cases fl with
  | ret u =>
    obtain ⟨v, σ', H', J, rv, q⟩ := hs
    exact fin J rv q
  | next =>
    obtain ⟨σ', H', J, q⟩ := hs
    exact fin (v := V.non) (u := Value.none) J rfl q
  | brk =>
    obtain ⟨_, _, _, q⟩ := hs
    exact False.elim q
  | cont =>
    obtain ⟨_, _, _, q⟩ := hs
    exact False.elim q
end
/-- the handled exception, as the context bears it -/
def HotE (X : Cx) (a : Addr) (c : Value) (d : Option Addr) : Prop := ∃ oe : Obj, (a, oe) ∈ X.pn ∧ Hot1 X.A (a, oe) ∧ Zc c d oe
theorem HotE.hotC {X : Cx} {a : Addr} {c : Value} {d : Option Addr} (h : HotE X a c d) : HotC X := by
  obtain ⟨oe, h1, h2, _⟩ := h
  exact ⟨_, h2, h1⟩
theorem HotE.pin {X : Cx} {a : Addr} {c : Value} {d : Option Addr} (h : HotE X a c d) : PinE X a c d := by
  obtain ⟨oe, h1, ⟨_, vs, e, _⟩, h3⟩ := h
  exact ⟨oe, h1, h3, vs, e⟩
theorem hotE_suite {X : Cx} {a : Addr} {oe : Obj} {pn : List (Addr × Obj)} {c : Value} {d : Option Addr} (z : L2N.Zn c d oe) (f : ∃ vs, oe.data = .fields vs) : HotE (X.suite a ((a, oe) :: pn)) a c d := by
  obtain ⟨vs, e⟩ := f
  exact ⟨oe, List.mem_cons_self, ⟨rfl, vs, e, z.2.2 vs e⟩, z.zc⟩
theorem hotE_def {CX : CXT} {P : Program} {w : World} {K : PySem.W.Frag} {mg : Str → Option Value} {base : Heap} {N : List Str} {qual : Str} {scope : Scope} {f : Addr} {cd : Value} {A : Around} {outer : List Env} {s : Shared} {H : Hp} {E : XK} {p : Addr × Obj} {c : Value} {d : Option Addr}
    (hot : Hot1 A p) (z : Zc c d p.2) : HotE (cxH CX P w K mg base N qual scope f cd A outer s H E p) p.1 c d := ⟨p.2, List.mem_cons_self, ⟨hot.1, hot.2⟩, z⟩
section
variable {X : Cx} {CX : CXT} {k : Nat} {f : Addr} {fd : FuncData} {ps : List Str} {sp : SpE} {x : Str} {q pos : Pos} {e : Expr} {es : List Expr} {t : TA} {a : Addr} {c : Value} {d : Option Addr}
def tCallE (sp : SpE) (a : Addr) (c : Value) (d : Option Addr) (t : TA) : TE := fun σ H Q => t σ H fun vs H1 => sp a c d vs H1 Q (fun _ _ _ => False)
/-- f(.., e, ..), e the handled exception; nothing is let out -/
theorem pe_callE (F : FnE X.prog X.w X.K X.mg X.base CX k f fd ps sp) (hr : RoomH k X.A) (hc : HotE X a c d) (hg : Gl X x) (hm : X.mg x = some (.ref f)) (hk : PySem.W.keepIn X.K (.ref f) = true) (hb : Binds X.K fd ps [])
    (hx : ∀ (s : Shared) (H : Hp) (e : Value) (s' : Shared), CX X.stack H s (fun _ _ _ => False) e s' → False)
    (ha : PA X (e :: es) t) (hdb : (x == ("__debug__" : Str)) = false := by decide) (he : starEach (e :: es) X.env = (false, eval e X.env) :: starEach es X.env := by rfl) (hpl : (backTo pos (starEach es X.env)).any (·.1) = false := by rfl) :
    PE X (.Call (.Name x q) (e :: es) [] pos) (tCallE sp a c d t) := by
  refine ⟨fun pins s σ H Q I h => ?_⟩
  refine wpAny_Call_Name_kw (ld_glob I hg hm ?_ hdb)
  refine PySem.W.callWith_K (h₀ := X.base) I.ok.mod.kin hk (thn (ha.run pos pins s σ H _ I h) fun us s1 ⟨vs, H1, I1, r, q⟩ => ⟨I1.kIn, ?_⟩) he hpl
  obtain ⟨oe, hp, hot, hz⟩ := hc
  have hl : us.length = ps.length := by rw [← r.length]; exact F.len _ _ _ _ _ _ _ q
  have b := hb s1 us I1.kIn (by rw [List.append_nil]; exact hl)
  rw [List.append_nil] at b
  have P1 := I1.pin (a, oe) (List.mem_append_left _ hp)
  have hpin : PinOk X.stack H1 s1 (a, oe) := ⟨P1.1, P1.2.1, fun hm => (List.mem_cons.mp (I1.stkSub a hm)).elim P1.2.2.1 P1.2.2.2.1, P1.2.2.2.2⟩
  refine wpAny_call (codeAny_mono (F.run X.A X.stack s1 H1 ⟨us, []⟩ us vs Q _ (a, oe) c d hr hot hz hpin I1.env0 b r q) fun r s' hq => ?_)
  cases r with
  | error e => exact (hx _ _ _ _ hq).elim
  | ok fl =>
    cases fl with
    | ret u => exact I1.after hq
    | next => exact False.elim hq
    | brk => exact False.elim hq
    | cont => exact False.elim hq
end
/-! ### try: body / except x as n: suite / further clauses that are never asked -/
section
variable {X : Cx} {x n : Str} {c : Value} {i : Nat} {body suite : List Stmt} {b₀ : Stmt} {np pos pos' : Pos} {hds : List ExceptHandler} {tb : WX → TS} {ts : Addr → Value → Option Addr → TS}
end
end LX
end
section
set_option Elab.async false
set_option linter.all false
set_option maxRecDepth 100000
set_option maxHeartbeats 4000000
/-! try: body / except x as n: suite / clauses that are never asked: each exception of the body is the first one's -/
namespace LX
open PySem PySem.Spec PyProof.Rows L2 L2H HotX LHot
def wFst (K : PySem.W.Frag) (c : Value) (i : Nat) (ts : Addr → Value → Option Addr → TS) (D : Ends) : WX := fun cls d σ H => PySem.W.exmOne K cls c = some true ∧
  ∀ a, H a = none → ts a cls d { nx := fun σ' H' => D.nx (σ'.set i none) H', rt := D.rt, bk := fun σ' H' => D.bk (σ'.set i none) H', ct := fun σ' H' => D.ct (σ'.set i none) H' } (σ.set i (some (.ref a))) H
section
variable {X : Cx} {x n : Str} {c : Value} {i : Nat} {body suite : List Stmt} {b₀ : Stmt} {np pos pos' : Pos} {hds : List ExceptHandler} {tb : WX → TS} {ts : Addr → Value → Option Addr → TS}
theorem ps_try_first (hs : X.stack = X.env :: X.outer) (hf : X.env.frame = some X.env.locals) (hN : X.N.Nodup) (hi : X.N[i]? = some n) (hln : X.env.kindOf n = some .local) (hc : Names X x c)
    (hb : ∀ (W : WX) (pn : List (Addr × Obj)) (xe : Value → Shared → Prop), L2N.Takes (X.tr pn xe) W → PassesOwn (model X.prog X.w) X.A X.env xe → PSs (X.tr pn xe) body (tb W))
    (hsu : ∀ (a : Addr) (oe : Obj) (cls : Value) (d : Option Addr) (pn : List (Addr × Obj)), L2N.Zn cls d oe → (∃ vs, oe.data = .fields vs) → PSs (X.suite a ((a, oe) :: pn)) (b₀ :: suite) (ts a cls d)) :
    PS X (.Try body (.ExceptHandler (some (.Name x np)) (some n) (b₀ :: suite) pos' :: hds) [] [] pos) (fun D σ H => tb (wFst X.K c i ts D) D σ H) := by
  refine ⟨fun pins s σ H D I h => ?_⟩
  have ok := I.ok
  have hfr : X.A.frames = some (X.env :: X.outer) := by rw [ok.frames, hs]
  have hloc : Loc X.env.scope n := .inl hln
  refine wpAny_Try_except ?_
  refine wpAny_mono ((hb (wFst X.K c i ts D) (X.pn ++ pins) (fun e s₁ => wpAny (model X.prog X.w) X.A (noteFrame e X.env) (fun _ s₂ => wpAny (model X.prog X.w) X.A (setFlight e none) (fun _ s₃ =>
    wpAny (model X.prog X.w) X.A (handleBy e X.env (.ExceptHandler (some (.Name x np)) (some n) (b₀ :: suite) pos' :: hds)) (SP X pins D) X.xe s₃) X.xe s₂) X.xe s₁) (fun u s' xx => ?_) PassesOwn.looking).run [] s σ H D (I.toTry _) h) (fun f s1 hsp => ?_) (fun e s1 he => he)
  · -- the catch
    obtain ⟨a, B, sI, pins', σ', H', cls, d, rfl, J', nb, up, sky, na, os, ag, hb1, hyes⟩ := xx
    have J : Inv X pins σ' H' sI := J'.ofTry ok
    have sky' : Sky B (X.env :: X.outer) a (L2N.Zn cls d) X.env.locals s'.heap := by rw [← hs]; exact sky
    show wpAny (model X.prog X.w) X.A (noteFrame (.ref a) X.env) _ _ _
    refine L2N.Sky.land L2N.Zn.steady hfr hf sky' fun h3 fl3 up3 => ?_
    have J3 : Inv X pins σ' H' { s' with heap := h3 } := J.landed nb fl3.1 (up.trans up3) os ag
    obtain ⟨oe3, vs3, he3, hz3, hd3⟩ := fl3.there
    have notFr : ∀ {h : Heap} {o : Obj} {vs : Array Value}, h.FunFrames B (X.env :: X.outer) → h.get? a = some o → o.data = .fields vs → a ∉ frs (X.env :: X.outer) := fun {h o vs} ff e dd hm => by
      obtain ⟨_, o', e', hnf⟩ := ff.mem hm
      rw [e] at e'; cases e'
      exact hnf _ dd
    have nfr := notFr fl3.2.2.1 he3 hd3
    have nL : a ≠ X.env.locals := fun z => nfr (List.mem_filterMap.mpr ⟨X.env, List.mem_cons_self, by rw [hf, z]⟩)
    have nF : a ∉ X.fs := fun hm => by
      obtain ⟨e, he, q⟩ := List.mem_filterMap.mp hm
      exact nfr (List.mem_filterMap.mpr ⟨e, List.mem_cons_of_mem _ he, q⟩)
    have S3 := J3.suite he3 hd3 na nL nF
    refine wpAny_handleBy_cons (codeAny_handlers_test ?_) (by intro q; cases q)
    have LT : PySem.W.Looks (model X.prog X.w) h3 (typeOf (.ref a)) cls := fun A Q E s k q => wpAny_typeOf_ref (k _ _ he3) (by rw [hz3.1]; exact q)
    have LM := PySem.W.exm_one (M := model X.prog X.w) (J3.kIn) LT hb1
    have test : ∀ {Q : Value → Shared → Prop} {E : Value → Shared → Prop}, Q c { s' with heap := h3 } → wpAny (model X.prog X.w) (X.A.mark (some (.ref a))) (eval (.Name x np) X.env) Q E { s' with heap := h3 } := fun {Q E} q => by
      obtain ⟨hg, hdbg, hm | ⟨hm, hv, hnn⟩⟩ := hc
      · exact ld_glob (X := X.suite a ((a, oe3) :: (X.pn ++ pins))) S3 hg hm q hdbg
      · exact ld_blt (X := X.suite a ((a, oe3) :: (X.pn ++ pins))) S3 hg hm hv q hnn hdbg
    refine test (LM.here ?_)
    refine codeAny_handlers_suite_as ?_
    refine HandSPX.lands_againZ fl3 fun h4 fl4 up4 => ?_
    have J4 : Inv X pins σ' H' { s' with heap := h4 } := J.landed nb fl4.1 ((up.trans up3).trans up4) os ag
    obtain ⟨oe4, vs4, he4, hz4, hd4⟩ := fl4.there
    have S4 := J4.suite he4 hd4 na nL nF
    refine store_ok (X := X.suite a ((a, oe4) :: (X.pn ++ pins))) (v := .ref a) S4 hN hi hloc rfl (fun s5 S5 => ?_) (.inr hln)
    refine wpAny_mono ((hsu a oe4 cls d (X.pn ++ pins) hz4 ⟨_, hd4⟩).run [] s5 _ H' _ S5 (hyes a na)) (fun f s6 hsp => ?_) (fun _ _ z => False.elim z)
    have end_ : ∀ {σ6 : St} {H6 : Hp} {Q : Shared → Prop}, Inv (X.suite a ((a, oe4) :: (X.pn ++ pins))) [] σ6 H6 s6 → (∀ s7, Inv X pins (σ6.set i none) H6 s7 → Q s7) →
        wpAny (model X.prog X.w) X.A (do bindName X.env n .none; unbindBehindTheSuite X.env n pos') (fun _ s7 => Q s7) X.xe s6 := fun {σ6 H6 Q} S6 hq => gone_ok (S6.unsuite ok) hN hi hln hq
    cases f with
    | next =>
      obtain ⟨σ6, H6, S6, q6⟩ := hsp
      exact end_ S6 fun s7 J7 => ⟨_, _, J7, q6⟩
    | brk =>
      obtain ⟨σ6, H6, S6, q6⟩ := hsp
      exact end_ S6 fun s7 J7 => ⟨_, _, J7, q6⟩
    | cont =>
      obtain ⟨σ6, H6, S6, q6⟩ := hsp
      exact end_ S6 fun s7 J7 => ⟨_, _, J7, q6⟩
    | ret u =>
      obtain ⟨v6, σ6, H6, S6, r6, q6⟩ := hsp
      exact end_ S6 fun s7 J7 => ⟨_, _, _, J7, r6, q6⟩
  · cases f with
    | next =>
      obtain ⟨σ', H', J', q⟩ := hsp
      exact wpAny_execs_nil ⟨σ', H', J'.ofTry ok, q⟩
    | brk =>
      obtain ⟨σ', H', J', q⟩ := hsp
      exact ⟨σ', H', J'.ofTry ok, q⟩
    | cont =>
      obtain ⟨σ', H', J', q⟩ := hsp
      exact ⟨σ', H', J'.ofTry ok, q⟩
    | ret u =>
      obtain ⟨v, σ', H', J', r, q⟩ := hsp
      exact ⟨v, σ', H', J'.ofTry ok, r, q⟩
end
end LX
end
section
set_option Elab.async false
set_option linter.all false
set_option maxRecDepth 100000
set_option maxHeartbeats 4000000
/-! exception classes of the package: what the written part says of them, one Bool; raised with context None -/
namespace LE
open PySem PySem.Spec PyProof.Rows L2 L2H
def clsB (K : PySem.W.Frag) (C : Addr) : Bool := match K.lookup C with
  | some ⟨.type "type", _, .cls cd, sl⟩ => (match cd.mro, sl.toList with
    | .ref C' :: bm, [_, _, _, _, some (.builtin n), _] => C' == C && (n == "ValueError.__new__" && (cd.hasDict && (!cd.hasDel && PySem.HandSPX.refsVE bm)))
    | _, _ => false)
  | _ => false
theorem clsB_ok {K : PySem.W.Frag} {C : Addr} (q : clsB K C = true) : ∃ nm q N bs bm sn sub ab col dd k0 k1 k2 k3 k5, K.lookup C = some (excClassObj nm q C N bs bm true sn sub ab col dd k0 k1 k2 k3 k5 "ValueError.__new__") ∧ PySem.HandSPX.refsVE bm = true := by
  unfold clsB at q
  split at q
  · rename_i dd cd sl ho
    split at q
    · rename_i C' bm k0 k1 k2 k3 n k5 hm hs
      simp only [Bool.and_eq_true, beq_iff_eq, Bool.not_eq_true'] at q
      obtain ⟨e1, e2, e3, e4, e5⟩ := q
      subst e1 e2
      obtain ⟨nm, bs, mro, ns, qn, hdct, sn, sub, ab, col, hdel⟩ := cd
      dsimp only at hm e3 e4
      subst hm e3 e4
      have hs' : sl = #[k0, k1, k2, k3, some (.builtin "ValueError.__new__"), k5] := by
        have := congrArg List.toArray hs
        simpa using this
      subst hs'
      exact ⟨nm, qn, ns, bs, bm, sn, sub, ab, col, dd, k0, k1, k2, k3, k5, ho, e5⟩
    · cases q
  · cases q
def eqV (a b : Option Value) : Bool := decide (a = b)
theorem eqV_ok {a b : Option Value} (h : eqV a b = true) : a = b := of_decide_eq_true h
/-- what all rules ask of an own exception class at C -/
structure Own (K : PySem.W.Frag) (C : Addr) : Prop where
  oex : OexC K C
  exc : ExcC K C
  xf : XfC K C
  ini : PySem.W.findIn K (.ref C) "__init__" = some (some (.ref (He.ma K C "__init__")))
  tyI : PySem.W.typeIn K (.ref (He.ma K C "__init__")) = some (.type "function")
  clsb : ClsV (.ref C) (.ref C)
def ownB (K : PySem.W.Frag) (C : Addr) : Bool :=
  clsB K C && (He.eqO (PySem.W.findIn K (.ref C) "__setattr__") (some (some (.builtin "object.__setattr__"))) && (decide (PySem.W.subIn K (.ref C) (.type "BaseException") = some true) && (eqV (PySem.W.typeIn K (.ref C)) (some (.type "type")) && (PySem.W.keepIn K (.ref C) &&
  (He.eqO (PySem.W.findIn K (.ref C) "__getattribute__") (some (some (.builtin "BaseException.__getattribute__"))) && (He.eqO (PySem.W.findIn K (.ref C) "__getattr__") (some none) && (PySem.W.hasDictIn K C &&
  (He.eqO (PySem.W.findIn K (.ref C) "__class__") (some (some (.builtin "object.__class__"))) && (He.eqO (PySem.W.specialIn K (.builtin "object.__class__") "__get__") (some (some (.builtin "getset_descriptor.__get__"))) &&
  (decide (PySem.W.takesIn K (.builtin "object.__class__") = some true) && (decide (PySem.W.mroIn K C (.type "object") = some true) &&
  (He.eqO (PySem.W.findIn K (.ref C) "__init__") (some (some (.ref (He.ma K C "__init__")))) && eqV (PySem.W.typeIn K (.ref (He.ma K C "__init__"))) (some (.type "function"))))))))))))))
theorem ownB_ok {K : PySem.W.Frag} {C : Addr} (h : ownB K C = true) : Own K C := by
  unfold ownB at h
  simp only [Bool.and_eq_true] at h
  obtain ⟨h1, h2, h3, h4, h5, h6, h7, h8, h9, h10, h11, h12, h13, h14⟩ := h
  have e3 := of_decide_eq_true h3
  exact ⟨⟨clsB_ok h1, He.eqO_ok h2, e3, eqV_ok h4, h5⟩, ⟨He.eqO_ok h6, He.eqO_ok h7, e3, h8, He.eqO_ok h9, He.eqO_ok h10, of_decide_eq_true h11, of_decide_eq_true h12⟩, ⟨He.eqO_ok h6, He.eqO_ok h7, e3, h8⟩, He.eqO_ok h13, eqV_ok h14, .own C⟩
/-- isinstance of an instance of D against C, by the written part -/
def isB (K : PySem.W.Frag) (D : Addr) (c : Value) (b : Bool) : Bool := decide (PySem.W.kitOne K (.ref D) c = some b)
def exmB (K : PySem.W.Frag) (D C : Addr) (b : Bool) : Bool := decide (PySem.W.exmOne K (.ref D) (.ref C) = some b)

/-! ### C(e, ..), raised where nothing is handled -/
section
variable {X : Cx} {e : Expr} {es : List Expr} {ta : TA} {p pos : Pos}
theorem pmk_oexN {CX : CXT} {x : Str} {C fI : Addr} {k : Nat} {fd : FuncData} {ps : List Str} {sp : Sp} (T : OexC X.K C) (iC : PySem.W.findIn X.K (.ref C) "__init__" = some (some (.ref fI))) (tI : PySem.W.typeIn X.K (.ref fI) = some (.type "function"))
    (F1 : FnOk X.prog X.w X.K X.mg X.base CX k fI fd ps sp) (hr : Room (k + 1) X.A) (hb : Binds X.K fd ps []) (hx : ∀ (s : Shared) (H : Hp) (e : Value) (s' : Shared), CX X.stack H s (fun _ _ _ => False) e s' → False) (hg : Gl X x) (hm : X.mg x = some (.ref C)) (ha : PA X (e :: es) ta)
    (hdb : (x == ("__debug__" : Str)) = false := by decide) (he : starEach (e :: es) X.env = (false, eval e X.env) :: starEach es X.env := by rfl) (hpl : (backTo pos (starEach es X.env)).any (·.1) = false := by rfl) :
    L2N.PMk X (.Call (.Name x p) (e :: es) [] pos) (tMkO C sp [] ta) := by
  intro pins s σ H Q I h
  obtain ⟨nm, q, N, bs, bm, sn, sub, ab, col, dd, k0, k1, k2, k3, k5, hC, hbm⟩ := T.cls
  refine wpAny_Call_Name_kw (ld_glob I hg hm ?_ hdb)
  refine PySem.W.callWith_K (h₀ := X.base) I.ok.mod.kin T.kC (thn (ha.run pos pins s σ H _ I h) fun us s1 ⟨vs, H1, I1, r1, hz, q1⟩ => ⟨I1.kIn, ?_⟩) he hpl
  show wpAny _ _ (call (.ref C) us) _ _ _
  obtain ⟨hp, g, dr, tk, os⟩ := s1
  have hsz : hp.objs.size ≤ hp.objs.size + 1 := Nat.le_succ _
  have hn : H1 (hp.objs.size + 1) = none := I1.hok.fresh hsz
  have hq := q1 (hp.objs.size + 1) hn
  rw [List.append_nil] at hq
  have kk : ∀ b o, hp.get? b = some o → ((hp.push (PySem.W.kdv_tup us)).push (PySem.HandSPX.excO C hp.objs.size)).get? b = some o := fun b o e => Heap.get?_push_of_some _ (Heap.get?_push_of_some _ e)
  have hget : ((hp.push (PySem.W.kdv_tup us)).push (PySem.HandSPX.excO C hp.objs.size)).get? (hp.objs.size + 1) = some (PySem.HandSPX.excO C hp.objs.size) := by heap_get
  have I2 : Inv X pins σ (upd H1 (hp.objs.size + 1) (exo (hp.objs.size + 1) C none)) ⟨(hp.push (PySem.W.kdv_tup us)).push (PySem.HandSPX.excO C hp.objs.size), g, dr, tk, os⟩ :=
    I1.laid (t' := tk) (a := hp.objs.size + 1) (o := exo (hp.objs.size + 1) C none) (h' := (hp.push (PySem.W.kdv_tup us)).push (PySem.HandSPX.excO C hp.objs.size)) kk hsz (exo_ok hget)
  have r2 : Vals (V.ref (hp.objs.size + 1) :: vs) (Value.ref (hp.objs.size + 1) :: us) := .cons rfl r1
  have hl : (Value.ref (hp.objs.size + 1) :: us ++ []).length = ps.length := by
    have e := r2.length
    rw [F1.len _ _ _ _ hq] at e
    rw [List.append_nil]
    exact e.symm
  have hus : us.length ≤ sizeLine := by
    rw [← Paired.length r1, sizeLine_eq]
    omega
  have b2 := hb _ (Value.ref (hp.objs.size + 1) :: us) I2.kIn hl
  rw [List.append_nil] at b2
  refine wpAny_call (PySem.HandSPX.call_own F.excBase_ValueError (fun Y => PySem.HandSPX.refsVE_contains Y bm hbm) (I1.kIn _ _ hC) (PySem.W.looks_findIn I1.kIn iC) (fun self => PySem.W.bind_fn I1.kIn self tI) hus
    (codeAny_mono (F1.run _ X.stack _ _ ⟨Value.ref (hp.objs.size + 1) :: us, []⟩ (Value.ref (hp.objs.size + 1) :: us) _ _ (fun _ _ _ => False) (hr.make C us []) (I2.env0.make C us []) b2 r2 hq) fun r s' hq' => ?_))
  cases r with
  | error er => exact (hx _ _ _ _ hq').elim
  | ok fl =>
    cases fl with
    | ret u =>
      obtain ⟨v, H2, os2, bare2, un2, hok2, rv, ev, d, fs, ea, ed, hd1, q2⟩ := hq'
      subst ev
      obtain ⟨h2, g2, d2, t2, os'⟩ := s'
      obtain ⟨t0, G, J, kG, ge, hoe, na⟩ := mk_end0 (d2 := d2) (t2 := t2) I1 hsz kk un2 hok2 os2 bare2 ea ed hd1
      refine ⟨rv, ?_⟩
      show L2N.MkP X pins σ Q (.ref (hp.objs.size + 1)) ⟨h2, g2, d2, t2, os'⟩
      exact ⟨_, _, _, ⟨G, g2, d2, t2, os'⟩, _, .ref C, some d, rfl, J, kG, ge, hoe, ⟨rfl, rfl, fun vs z => by cases z; rfl⟩, rfl, rfl, na, rfl, bare2, raises_own T.exC T.tyC, q2⟩
    | next => exact False.elim hq'
    | brk => exact False.elim hq'
    | cont => exact False.elim hq'
end
end LE
end
section
set_option Elab.async false
set_option linter.all false
set_option maxRecDepth 100000
set_option maxHeartbeats 0
/-! the head: generated by gen/head.py -/
namespace K20
open PySem PySem.Spec PyProof.Rows L2
abbrev prg : Program := PySem.Challenge.pw_logless_k20_sites_hooks_cores
def top (i : Nat) : Stmt := prg.main.body.getD i (.Pass ⟨0, 0, 0, 0⟩)
abbrev s_ask_text : Stmt := top 26
abbrev s_ask_cells : Stmt := top 27
abbrev s_ten_to : Stmt := top 31
abbrev s_is_digits : Stmt := top 32
abbrev s_whole_of : Stmt := top 33
abbrev s_is_whole : Stmt := top 35
abbrev s_ask_row_texts : Stmt := top 38
abbrev s_ask_site : Stmt := top 39
abbrev s_word_worth : Stmt := top 40
abbrev s_wrong_row : Stmt := top 41
abbrev s_rows_of : Stmt := top 42
abbrev s_first_gaps : Stmt := top 43
abbrev s_rows_of_gaps : Stmt := top 44
abbrev s_site_falls : Stmt := top 45
abbrev s_turn_rows : Stmt := top 46
abbrev s_read_shape : Stmt := top 48
abbrev s_falling : Stmt := top 49
abbrev s_gaps : Stmt := top 50
abbrev s_turned : Stmt := top 51
abbrev s_hooks : Stmt := top 52
abbrev s_core : Stmt := top 53
abbrev s__law_bag : Stmt := top 55
abbrev s__law_draw : Stmt := top 56
abbrev s__law_pick : Stmt := top 57
abbrev s__law_reach : Stmt := top 58
abbrev s__law_whole : Stmt := top 59
abbrev s__law_like : Stmt := top 60
abbrev s__law_marks : Stmt := top 61
abbrev s__law_fault : Stmt := top 62
abbrev s__law_tried : Stmt := top 63
abbrev s__law_refuses : Stmt := top 64
abbrev s__law_cells_of : Stmt := top 65
abbrev s__law_columns : Stmt := top 66
abbrev s__law_cleaned : Stmt := top 67
abbrev s__law_strips : Stmt := top 68
abbrev s__law_is_gap : Stmt := top 69
abbrev s__law_stair : Stmt := top 70
abbrev s__law_stair_in : Stmt := top 71
abbrev s__law_bent_stair : Stmt := top 72
abbrev s__law_spot : Stmt := top 73
abbrev s__law_core_of : Stmt := top 74
abbrev s__law_hooks_walked : Stmt := top 75
abbrev s__law_parts_told : Stmt := top 76
abbrev s__law_sites_told : Stmt := top 77
abbrev s__law_faults_told : Stmt := top 78
abbrev s_law : Stmt := top 79
abbrev s_BadShape__init : Stmt := inClass (top 8) 0
abbrev s_TooMany__init : Stmt := inClass (top 20) 0
def d_ask_text : He.DefD := ⟨("ask_text", none), "ask_text", "ask_text", defArgs s_ask_text, defBody s_ask_text, defScope s_ask_text, [], []⟩
def d_ask_cells : He.DefD := ⟨("ask_cells", none), "ask_cells", "ask_cells", defArgs s_ask_cells, defBody s_ask_cells, defScope s_ask_cells, [], []⟩
def d_ten_to : He.DefD := ⟨("ten_to", none), "ten_to", "ten_to", defArgs s_ten_to, defBody s_ten_to, defScope s_ten_to, [], []⟩
def d_is_digits : He.DefD := ⟨("is_digits", none), "is_digits", "is_digits", defArgs s_is_digits, defBody s_is_digits, defScope s_is_digits, [], []⟩
def d_whole_of : He.DefD := ⟨("whole_of", none), "whole_of", "whole_of", defArgs s_whole_of, defBody s_whole_of, defScope s_whole_of, [], []⟩
def d_is_whole : He.DefD := ⟨("is_whole", none), "is_whole", "is_whole", defArgs s_is_whole, defBody s_is_whole, defScope s_is_whole, [], []⟩
def d_ask_row_texts : He.DefD := ⟨("ask_row_texts", none), "ask_row_texts", "ask_row_texts", defArgs s_ask_row_texts, defBody s_ask_row_texts, defScope s_ask_row_texts, [], []⟩
def d_ask_site : He.DefD := ⟨("ask_site", none), "ask_site", "ask_site", defArgs s_ask_site, defBody s_ask_site, defScope s_ask_site, [], []⟩
def d_word_worth : He.DefD := ⟨("word_worth", none), "word_worth", "word_worth", defArgs s_word_worth, defBody s_word_worth, defScope s_word_worth, [], []⟩
def d_wrong_row : He.DefD := ⟨("wrong_row", none), "wrong_row", "wrong_row", defArgs s_wrong_row, defBody s_wrong_row, defScope s_wrong_row, [], []⟩
def d_rows_of : He.DefD := ⟨("rows_of", none), "rows_of", "rows_of", defArgs s_rows_of, defBody s_rows_of, defScope s_rows_of, [], []⟩
def d_first_gaps : He.DefD := ⟨("first_gaps", none), "first_gaps", "first_gaps", defArgs s_first_gaps, defBody s_first_gaps, defScope s_first_gaps, [], []⟩
def d_rows_of_gaps : He.DefD := ⟨("rows_of_gaps", none), "rows_of_gaps", "rows_of_gaps", defArgs s_rows_of_gaps, defBody s_rows_of_gaps, defScope s_rows_of_gaps, [], []⟩
def d_site_falls : He.DefD := ⟨("site_falls", none), "site_falls", "site_falls", defArgs s_site_falls, defBody s_site_falls, defScope s_site_falls, [], []⟩
def d_turn_rows : He.DefD := ⟨("turn_rows", none), "turn_rows", "turn_rows", defArgs s_turn_rows, defBody s_turn_rows, defScope s_turn_rows, [], []⟩
def d_read_shape : He.DefD := ⟨("read_shape", none), "read_shape", "read_shape", defArgs s_read_shape, defBody s_read_shape, defScope s_read_shape, [], []⟩
def d_falling : He.DefD := ⟨("falling", none), "falling", "falling", defArgs s_falling, defBody s_falling, defScope s_falling, [], []⟩
def d_gaps : He.DefD := ⟨("gaps", none), "gaps", "gaps", defArgs s_gaps, defBody s_gaps, defScope s_gaps, [], []⟩
def d_turned : He.DefD := ⟨("turned", none), "turned", "turned", defArgs s_turned, defBody s_turned, defScope s_turned, [], []⟩
def d_hooks : He.DefD := ⟨("hooks", none), "hooks", "hooks", defArgs s_hooks, defBody s_hooks, defScope s_hooks, [], []⟩
def d_core : He.DefD := ⟨("core", none), "core", "core", defArgs s_core, defBody s_core, defScope s_core, [], []⟩
def d__law_bag : He.DefD := ⟨("_law_bag", none), "_law_bag", "_law_bag", defArgs s__law_bag, defBody s__law_bag, defScope s__law_bag, [], []⟩
def d__law_draw : He.DefD := ⟨("_law_draw", none), "_law_draw", "_law_draw", defArgs s__law_draw, defBody s__law_draw, defScope s__law_draw, [], []⟩
def d__law_pick : He.DefD := ⟨("_law_pick", none), "_law_pick", "_law_pick", defArgs s__law_pick, defBody s__law_pick, defScope s__law_pick, [], []⟩
def d__law_reach : He.DefD := ⟨("_law_reach", none), "_law_reach", "_law_reach", defArgs s__law_reach, defBody s__law_reach, defScope s__law_reach, [], []⟩
def d__law_whole : He.DefD := ⟨("_law_whole", none), "_law_whole", "_law_whole", defArgs s__law_whole, defBody s__law_whole, defScope s__law_whole, [], []⟩
def d__law_like : He.DefD := ⟨("_law_like", none), "_law_like", "_law_like", defArgs s__law_like, defBody s__law_like, defScope s__law_like, [], []⟩
def d__law_marks : He.DefD := ⟨("_law_marks", none), "_law_marks", "_law_marks", defArgs s__law_marks, defBody s__law_marks, defScope s__law_marks, [], []⟩
def d__law_fault : He.DefD := ⟨("_law_fault", none), "_law_fault", "_law_fault", defArgs s__law_fault, defBody s__law_fault, defScope s__law_fault, [], []⟩
def d__law_tried : He.DefD := ⟨("_law_tried", none), "_law_tried", "_law_tried", defArgs s__law_tried, defBody s__law_tried, defScope s__law_tried, [], []⟩
def d__law_refuses : He.DefD := ⟨("_law_refuses", none), "_law_refuses", "_law_refuses", defArgs s__law_refuses, defBody s__law_refuses, defScope s__law_refuses, [], []⟩
def d__law_cells_of : He.DefD := ⟨("_law_cells_of", none), "_law_cells_of", "_law_cells_of", defArgs s__law_cells_of, defBody s__law_cells_of, defScope s__law_cells_of, [], []⟩
def d__law_columns : He.DefD := ⟨("_law_columns", none), "_law_columns", "_law_columns", defArgs s__law_columns, defBody s__law_columns, defScope s__law_columns, [], []⟩
def d__law_cleaned : He.DefD := ⟨("_law_cleaned", none), "_law_cleaned", "_law_cleaned", defArgs s__law_cleaned, defBody s__law_cleaned, defScope s__law_cleaned, [], []⟩
def d__law_strips : He.DefD := ⟨("_law_strips", none), "_law_strips", "_law_strips", defArgs s__law_strips, defBody s__law_strips, defScope s__law_strips, [], []⟩
def d__law_is_gap : He.DefD := ⟨("_law_is_gap", none), "_law_is_gap", "_law_is_gap", defArgs s__law_is_gap, defBody s__law_is_gap, defScope s__law_is_gap, [], []⟩
def d__law_stair : He.DefD := ⟨("_law_stair", none), "_law_stair", "_law_stair", defArgs s__law_stair, defBody s__law_stair, defScope s__law_stair, [], []⟩
def d__law_stair_in : He.DefD := ⟨("_law_stair_in", none), "_law_stair_in", "_law_stair_in", defArgs s__law_stair_in, defBody s__law_stair_in, defScope s__law_stair_in, [], []⟩
def d__law_bent_stair : He.DefD := ⟨("_law_bent_stair", none), "_law_bent_stair", "_law_bent_stair", defArgs s__law_bent_stair, defBody s__law_bent_stair, defScope s__law_bent_stair, [], []⟩
def d__law_spot : He.DefD := ⟨("_law_spot", none), "_law_spot", "_law_spot", defArgs s__law_spot, defBody s__law_spot, defScope s__law_spot, [], []⟩
def d__law_core_of : He.DefD := ⟨("_law_core_of", none), "_law_core_of", "_law_core_of", defArgs s__law_core_of, defBody s__law_core_of, defScope s__law_core_of, [], []⟩
def d__law_hooks_walked : He.DefD := ⟨("_law_hooks_walked", none), "_law_hooks_walked", "_law_hooks_walked", defArgs s__law_hooks_walked, defBody s__law_hooks_walked, defScope s__law_hooks_walked, [], []⟩
def d__law_parts_told : He.DefD := ⟨("_law_parts_told", none), "_law_parts_told", "_law_parts_told", defArgs s__law_parts_told, defBody s__law_parts_told, defScope s__law_parts_told, [], []⟩
def d__law_sites_told : He.DefD := ⟨("_law_sites_told", none), "_law_sites_told", "_law_sites_told", defArgs s__law_sites_told, defBody s__law_sites_told, defScope s__law_sites_told, [], []⟩
def d__law_faults_told : He.DefD := ⟨("_law_faults_told", none), "_law_faults_told", "_law_faults_told", defArgs s__law_faults_told, defBody s__law_faults_told, defScope s__law_faults_told, [], []⟩
def d_law : He.DefD := ⟨("law", none), "law", "law", defArgs s_law, defBody s_law, defScope s_law, [], []⟩
def d_BadShape__init : He.DefD := ⟨("BadShape", some "__init__"), "__init__", "BadShape.__init__", defArgs s_BadShape__init, defBody s_BadShape__init, defScope s_BadShape__init, [], []⟩
def d_TooMany__init : He.DefD := ⟨("TooMany", some "__init__"), "__init__", "TooMany.__init__", defArgs s_TooMany__init, defBody s_TooMany__init, defScope s_TooMany__init, [], []⟩
def fn_0 : List He.DefD := [d_ask_text, d_ask_cells, d_ten_to, d_is_digits, d_whole_of, d_is_whole, d_ask_row_texts, d_ask_site, d_word_worth, d_wrong_row, d_rows_of, d_first_gaps, d_rows_of_gaps, d_site_falls, d_turn_rows, d_read_shape, d_falling, d_gaps, d_turned, d_hooks, d_core, d__law_bag, d__law_draw, d__law_pick, d__law_reach]
def fn_1 : List He.DefD := [d__law_whole, d__law_like, d__law_marks, d__law_fault, d__law_tried, d__law_refuses, d__law_cells_of, d__law_columns, d__law_cleaned, d__law_strips, d__law_is_gap, d__law_stair, d__law_stair_in, d__law_bent_stair, d__law_spot, d__law_core_of, d__law_hooks_walked, d__law_parts_told, d__law_sites_told, d__law_faults_told, d_law, d_BadShape__init, d_TooMany__init]
def fn : List He.DefD := fn_0 ++ fn_1
def fa_0 : List He.Fa := [.glo "ask_text", .glo "ask_cells", .glo "ten_to", .glo "is_digits", .glo "whole_of", .glo "is_whole", .glo "ask_row_texts", .glo "ask_site", .glo "word_worth", .glo "wrong_row", .glo "rows_of", .glo "first_gaps", .glo "rows_of_gaps", .glo "site_falls", .glo "turn_rows", .glo "read_shape", .glo "falling", .glo "gaps", .glo "turned", .glo "hooks", .glo "core", .glo "_law_bag", .glo "_law_draw", .glo "_law_pick", .glo "_law_reach"]
def fa_1 : List He.Fa := [.glo "_law_whole", .glo "_law_like", .glo "_law_marks", .glo "_law_fault", .glo "_law_tried", .glo "_law_refuses", .glo "_law_cells_of", .glo "_law_columns", .glo "_law_cleaned", .glo "_law_strips", .glo "_law_is_gap", .glo "_law_stair", .glo "_law_stair_in", .glo "_law_bent_stair", .glo "_law_spot", .glo "_law_core_of", .glo "_law_hooks_walked", .glo "_law_parts_told", .glo "_law_sites_told", .glo "_law_faults_told", .glo "law", .glo "Refused", .glo "BadNumber", .glo "BadSum", .glo "BadQuotient"]
def fa_2 : List He.Fa := [.glo "BadLandscape", .glo "BadWell", .glo "BadWall", .glo "BadShape", .glo "BadRoll", .glo "BadOperator", .glo "BadSymbol", .glo "BadStep", .glo "BadPaper", .glo "BadName", .glo "BadScript", .glo "Barred", .glo "Unlike", .glo "HasResidue", .glo "NotKept", .glo "TooMany", .glo "NoSuch", .glo "Ended", .int "MOST_TEXT" (60000), .int "MOST_CELLS" (30), .int "CHUNK" (1000), .int "MOST_SITE" (60), .str "FIGURES" "0123456789", .free "LookupError", .free "RuntimeError"]
def fa_3 : List He.Fa := [.free "ValueError", .free "abs", .free "bool", .free "enumerate", .free "int", .free "isinstance", .free "len", .free "list", .free "max", .free "min", .free "range", .free "sorted", .free "str", .free "sum", .free "tuple"]
def fa : List He.Fa := fa_0 ++ fa_1 ++ fa_2 ++ fa_3
/-- what is asked of the classes -/
def ex_0 (K : PySem.W.Frag) : Bool := LE.ownB K (He.ga K "BadShape") && (He.eqO (PySem.W.findIn K (.ref (He.ga K "BadShape")) "at") (some none) && (LE.isB K (He.ga K "BadShape") (.ref (He.ga K "Refused")) true && (LE.isB K (He.ga K "BadShape") (.ref (He.ga K "BadNumber")) false && (LE.isB K (He.ga K "BadShape") (.ref (He.ga K "BadSum")) false && (LE.isB K (He.ga K "BadShape") (.ref (He.ga K "BadQuotient")) false && (LE.isB K (He.ga K "BadShape") (.ref (He.ga K "BadLandscape")) false && (LE.isB K (He.ga K "BadShape") (.ref (He.ga K "BadWell")) false && (LE.isB K (He.ga K "BadShape") (.ref (He.ga K "BadWall")) false && (LE.isB K (He.ga K "BadShape") (.ref (He.ga K "BadShape")) true && (LE.isB K (He.ga K "BadShape") (.ref (He.ga K "BadRoll")) false && (LE.isB K (He.ga K "BadShape") (.ref (He.ga K "BadOperator")) false)))))))))))
def ex_1 (K : PySem.W.Frag) : Bool := LE.isB K (He.ga K "BadShape") (.ref (He.ga K "BadSymbol")) false && (LE.isB K (He.ga K "BadShape") (.ref (He.ga K "BadStep")) false && (LE.isB K (He.ga K "BadShape") (.ref (He.ga K "BadPaper")) false && (LE.isB K (He.ga K "BadShape") (.ref (He.ga K "BadName")) false && (LE.isB K (He.ga K "BadShape") (.ref (He.ga K "BadScript")) false && (LE.isB K (He.ga K "BadShape") (.ref (He.ga K "Barred")) false && (LE.isB K (He.ga K "BadShape") (.ref (He.ga K "Unlike")) false && (LE.isB K (He.ga K "BadShape") (.ref (He.ga K "HasResidue")) false && (LE.isB K (He.ga K "BadShape") (.ref (He.ga K "NotKept")) false && (LE.isB K (He.ga K "BadShape") (.ref (He.ga K "TooMany")) false && (LE.isB K (He.ga K "BadShape") (.ref (He.ga K "NoSuch")) false && (LE.isB K (He.ga K "BadShape") (.ref (He.ga K "Ended")) false)))))))))))
def ex_2 (K : PySem.W.Frag) : Bool := LE.isB K (He.ga K "BadShape") (.type "ValueError") true && (LE.isB K (He.ga K "BadShape") (.type "LookupError") false && (LE.isB K (He.ga K "BadShape") (.type "RuntimeError") false && (LE.exmB K (He.ga K "BadShape") (He.ga K "Refused") true && (LE.ownB K (He.ga K "TooMany") && (He.eqO (PySem.W.findIn K (.ref (He.ga K "TooMany")) "what") (some none) && (He.eqO (PySem.W.findIn K (.ref (He.ga K "TooMany")) "count") (some none) && (LE.isB K (He.ga K "TooMany") (.ref (He.ga K "Refused")) true && (LE.isB K (He.ga K "TooMany") (.ref (He.ga K "BadNumber")) false && (LE.isB K (He.ga K "TooMany") (.ref (He.ga K "BadSum")) false && (LE.isB K (He.ga K "TooMany") (.ref (He.ga K "BadQuotient")) false && (LE.isB K (He.ga K "TooMany") (.ref (He.ga K "BadLandscape")) false)))))))))))
def ex_3 (K : PySem.W.Frag) : Bool := LE.isB K (He.ga K "TooMany") (.ref (He.ga K "BadWell")) false && (LE.isB K (He.ga K "TooMany") (.ref (He.ga K "BadWall")) false && (LE.isB K (He.ga K "TooMany") (.ref (He.ga K "BadShape")) false && (LE.isB K (He.ga K "TooMany") (.ref (He.ga K "BadRoll")) false && (LE.isB K (He.ga K "TooMany") (.ref (He.ga K "BadOperator")) false && (LE.isB K (He.ga K "TooMany") (.ref (He.ga K "BadSymbol")) false && (LE.isB K (He.ga K "TooMany") (.ref (He.ga K "BadStep")) false && (LE.isB K (He.ga K "TooMany") (.ref (He.ga K "BadPaper")) false && (LE.isB K (He.ga K "TooMany") (.ref (He.ga K "BadName")) false && (LE.isB K (He.ga K "TooMany") (.ref (He.ga K "BadScript")) false && (LE.isB K (He.ga K "TooMany") (.ref (He.ga K "Barred")) false && (LE.isB K (He.ga K "TooMany") (.ref (He.ga K "Unlike")) false)))))))))))
def ex_4 (K : PySem.W.Frag) : Bool := LE.isB K (He.ga K "TooMany") (.ref (He.ga K "HasResidue")) false && (LE.isB K (He.ga K "TooMany") (.ref (He.ga K "NotKept")) false && (LE.isB K (He.ga K "TooMany") (.ref (He.ga K "TooMany")) true && (LE.isB K (He.ga K "TooMany") (.ref (He.ga K "NoSuch")) false && (LE.isB K (He.ga K "TooMany") (.ref (He.ga K "Ended")) false && (LE.isB K (He.ga K "TooMany") (.type "ValueError") true && (LE.isB K (He.ga K "TooMany") (.type "LookupError") false && (LE.isB K (He.ga K "TooMany") (.type "RuntimeError") false && (LE.exmB K (He.ga K "TooMany") (He.ga K "Refused") true))))))))
def ex (K : PySem.W.Frag) : Bool := ex_0 K && (ex_1 K && (ex_2 K && (ex_3 K && (ex_4 K))))
def tf : List He.Defn := [("_law_faults_told", none)]
def names_0 : List PySem.Str := ["ask_text", "ask_cells", "ten_to", "is_digits", "whole_of", "is_whole", "ask_row_texts", "ask_site", "word_worth", "wrong_row", "rows_of", "first_gaps", "rows_of_gaps", "site_falls", "turn_rows", "read_shape", "falling", "gaps", "turned", "hooks", "core", "_law_bag", "_law_draw", "_law_pick", "_law_reach", "_law_whole", "_law_like", "_law_marks", "_law_fault", "_law_tried"]
def names_1 : List PySem.Str := ["_law_refuses", "_law_cells_of", "_law_columns", "_law_cleaned", "_law_strips", "_law_is_gap", "_law_stair", "_law_stair_in", "_law_bent_stair", "_law_spot", "_law_core_of", "_law_hooks_walked", "_law_parts_told", "_law_sites_told", "_law_faults_told", "Refused", "BadNumber", "BadSum", "BadQuotient", "BadLandscape", "BadWell", "BadWall", "BadShape", "BadRoll", "BadOperator", "BadSymbol", "BadStep", "BadPaper", "BadName", "BadScript"]
def names_2 : List PySem.Str := ["Barred", "Unlike", "HasResidue", "NotKept", "TooMany", "NoSuch", "Ended", "MOST_TEXT", "MOST_CELLS", "CHUNK", "MOST_SITE", "FIGURES"]
def names : List PySem.Str := names_0 ++ names_1 ++ names_2
abbrev R : PySem.W.OpenRow := PySem.W.OpenLaw.row PySem.Challenge.rw_logless_k20_sites_hooks_cores
abbrev hk : PySem.W.Hook := He.hookX 6 fa fn [] tf ex
def ob (s : PySem.W.SharedT) : He.AlX := He.obsX 6 fa fn [] tf ex (HandSHeadRun.getT s)
theorem ob_eq (s : PySem.W.SharedT) : ob s = hk.obs s.abs := He.obsX_eq (HandSHeadRun.getT_eq s)
theorem run (w : World) : HandSHeadRun.RunEq R (PySem.W.view R.prog [79]) hk ob 12000 names w := by
  intro os
  kernel_rfl
end K20
end
section
set_option Elab.async false
set_option linter.all false
set_option maxRecDepth 100000
set_option maxHeartbeats 4000000
/-! readings by the kinds of the values; what a heap keeps -/
namespace U
open PySem PySem.Spec PyProof.Rows L2 LamX

/-! ### what is kept: all but tables of code objects; those still tell what they told -/
structure Gr (T : List (Addr × Str)) (H H' : Hp) : Prop where
  keep : ExtN H H'
  free : ∀ b, H' b = none → H b = none
  tabs : Tabs T H → Tabs T H'
section
variable {T : List (Addr × Str)} {H H1 H2 H' : Hp} {p : Addr} {o : HO} {K : PySem.W.Frag} {a : Addr} {xs ys : List V}
theorem Gr.refl (T : List (Addr × Str)) (H : Hp) : Gr T H H := ⟨ExtN.refl H, fun _ e => e, id⟩
theorem Gr.trans (a : Gr T H H1) (b : Gr T H1 H2) : Gr T H H2 := ⟨a.keep.trans b.keep, fun c e => a.free c (b.free c e), fun t => b.tabs (a.tabs t)⟩
theorem Gr.new (h : H p = none) : Gr T H (upd H p o) :=
  ⟨fun b u e _ => by rw [upd_ne (ne_of_none e h)]; exact e, fun b e => NdefX.upd_none e, fun t => t.ext fun b u e => by rw [upd_ne (ne_of_none e h)]; exact e⟩
theorem Gr.of_same (e : ∀ b o, H b = some o → H' b = some o) : Gr T H H' := by
  refine ⟨fun b o h _ => e b o h, fun b n => ?_, fun t => t.ext e⟩
  cases q : H b with
  | none => rfl
  | some o =>
    rw [e b o q] at n
    cases n
/-- a list that is new since H is written -/
theorem Gr.set (g : Gr T H H1) (h0 : H p = none) (h1 : H1 p = some (.lst xs)) : Gr T H (upd H1 p (.lst ys)) := by
  refine ⟨fun b u e n => ?_, fun b e => g.free b (NdefX.upd_none e), fun t => ?_⟩
  · rw [upd_ne (ne_of_none e h0)]; exact g.keep b u e n
  · intro q hq
    obtain ⟨ps, a1, a2, a3⟩ := g.tabs t q hq
    refine ⟨ps, ?_, a2, fun pos cv hc => ?_⟩
    · rw [upd_ne (fun z => by rw [z, h1] at a1; cases a1)]; exact a1
    · obtain ⟨c, e1, e2⟩ := a3 pos cv hc
      refine ⟨c, e1, ?_⟩
      rw [upd_ne (fun z => by rw [z, h1] at e2; unfold CodeO at e2; cases e2)]; exact e2
theorem Gr.lst (g : Gr T H H') (h : H p = some (.lst xs)) : H' p = some (.lst xs) := g.keep p _ h fun _ z => by cases z
theorem Gr.tup (g : Gr T H H') (h : H p = some (.tup xs)) : H' p = some (.tup xs) := g.keep p _ h fun _ z => by cases z
theorem Gr.rdL (g : Gr T H H') (h : Rd H p (.lst xs)) : Rd H' p (.lst xs) := by
  rcases h with h | ⟨o, h⟩
  · exact .inl (g.lst h)
  · exact .inr ⟨o, g.keep p _ h fun _ z => by cases z⟩
theorem Gr.rdT (g : Gr T H H') (h : Rd H p (.tup xs)) : Rd H' p (.tup xs) := by
  rcases h with h | ⟨o, h⟩
  · exact .inl (g.tup h)
  · exact .inr ⟨o, g.keep p _ h fun _ z => by cases z⟩
theorem Gr.sqL (g : Gr T H H') (h : SqL K H p xs) : SqL K H' p xs := h.elim (fun z => .inl (g.rdL z)) .inr
theorem Gr.sqT (g : Gr T H H') (h : SqT K H p xs) : SqT K H' p xs := h.elim (fun z => .inl (g.rdT z)) .inr
mutual
theorem Gr.dp (g : Gr T H H') : ∀ {v : V} {d : PyData}, Dp K H v d → Dp K H' v d
  | _, _, .non => .non
  | _, _, .bl b => .bl b
  | _, _, .int i => .int i
  | _, _, .str s => .str s
  | _, _, .lst h a => .lst (g.sqL h) (g.dpAll a)
  | _, _, .tup h a => .tup (g.sqT h) (g.dpAll a)
theorem Gr.dpAll (g : Gr T H H') : ∀ {vs : List V} {ds : List PyData}, DpAll K H vs ds → DpAll K H' vs ds
  | _, _, .nil => .nil
  | _, _, .cons h a => .cons (g.dp h) (g.dpAll a)
end
end
end U
end
section
set_option Elab.async false
set_option linter.all false
set_option maxRecDepth 100000
set_option maxHeartbeats 4000000
namespace U
open PySem PySem.Spec PyProof.Rows L2 LamX
section
variable {X : Cx} {K : PySem.W.Frag}
/-! ### operators by the kinds of both values -/
def uAdd (K : PySem.W.Frag) : R2 := fun x y H Q => match x, y with
  | .int i, .int j => Q (.int (i + j)) H
  | .str a, .str b => a.length + b.length ≤ sizeLine ∧ Q (.str (a ++ b)) H
  | .ref a, .ref b => rCat (.ref a) (.ref b) H Q ∨ rCatA K (.ref a) (.ref b) H Q
  | _, _ => False
theorem op_uAdd : OpR X (binaryOp .Add) (uAdd X.K) := by
  intro pins s σ H x y u v Q I rx ry h
  cases x <;> cases y <;> first
    | exact (show False from h).elim
    | exact op_add pins s σ H _ _ u v Q I rx ry ⟨_, _, rfl, rfl, h⟩
    | exact op_add_str pins s σ H _ _ u v Q I rx ry ⟨_, _, rfl, rfl, h⟩
    | exact (OpR.or op_cat op_catA) pins s σ H _ _ u v Q I rx ry h
def uMul : R2 := fun x y H Q => match x, y with
  | .int i, .int j => CMul i j ∧ Q (.int (i * j)) H
  | .ref a, .int j => rRep (.ref a) (.int j) H Q
  | _, _ => False
theorem op_uMul : OpR X (binaryOp .Mult) uMul := by
  intro pins s σ H x y u v Q I rx ry h
  cases x <;> cases y <;> first
    | exact (show False from h).elim
    | exact op_mul pins s σ H _ _ u v Q I rx ry ⟨_, _, rfl, rfl, h⟩
    | exact op_rep pins s σ H _ _ u v Q I rx ry h
def uEq (K : PySem.W.Frag) : R2 := fun x y H Q => match x, y with
  | .ref a, .ref b => rEqD K (.ref a) (.ref b) H Q
  | x, y => rEq x y H Q
theorem op_uEq (hu : X.A.units + 64 < cLine) : OpR X (compareOp .Eq) (uEq X.K) := by
  intro pins s σ H x y u v Q I rx ry h
  cases x <;> cases y <;> first
    | exact op_eqD hu pins s σ H _ _ u v Q I rx ry h
    | exact op_eq pins s σ H _ _ u v Q I rx ry h
def uNe (K : PySem.W.Frag) : R2 := fun x y H Q => match x, y with
  | .ref a, .ref b => rNeD K (.ref a) (.ref b) H Q
  | x, y => rNe x y H Q
theorem op_uNe (hu : X.A.units + 64 < cLine) : OpR X (compareOp .NotEq) (uNe X.K) := by
  intro pins s σ H x y u v Q I rx ry h
  cases x <;> cases y <;> first
    | exact op_neD hu pins s σ H _ _ u v Q I rx ry h
    | exact op_ne pins s σ H _ _ u v Q I rx ry h
def rInSg (neg : Bool) : R2 := fun x y H Q => ∃ (c : Nat) (z : Str), x = .str ⟨#[c]⟩ ∧ y = .str z ∧ Q (.bl (if neg then !decide (c ∈ z.cps.toList) else decide (c ∈ z.cps.toList))) H
def rInSt (neg : Bool) : R2 := fun x y H Q => ∃ i j, x = .str i ∧ y = .str j ∧ Q (.bl (if neg then !(!(Builtin.Str.occurrences j i 0 j.length 1).isEmpty) else !(Builtin.Str.occurrences j i 0 j.length 1).isEmpty)) H
def uIn (K : PySem.W.Frag) (neg : Bool) : R2 := fun x y H Q => match y with
  | .str z => rInSg neg x (.str z) H Q ∨ rInSt neg x (.str z) H Q
  | .ref a => rIn K neg x (.ref a) H Q
  | _ => False
theorem op_uIn : OpR X (compareOp .In) (uIn X.K false) := by
  intro pins s σ H x y u v Q I rx ry h
  cases y <;> first
    | exact (show False from h).elim
    | exact (OpR.or op_in_sign op_in_str) pins s σ H _ _ u v Q I rx ry h
    | exact op_in_seq pins s σ H _ _ u v Q I rx ry h
theorem op_uNotIn : OpR X (compareOp .NotIn) (uIn X.K true) := by
  intro pins s σ H x y u v Q I rx ry h
  cases y <;> first
    | exact (show False from h).elim
    | exact (OpR.or op_notIn_sign op_notIn_str) pins s σ H _ _ u v Q I rx ry h
    | exact op_notIn_seq pins s σ H _ _ u v Q I rx ry h
def rSl (K : PySem.W.Frag) : V → Option Int → Option Int → Hp → VK → Prop := fun x lo hi H Q => match x with
  | .str z => z.length ≤ sizeLine ∧ Q (.str (cutS z lo hi)) H
  | .ref a => rSlL K (.ref a) lo hi H Q ∨ rSlA K (.ref a) lo hi H Q
  | _ => False
theorem sl_u : SlR X (rSl X.K) := by
  intro pins s σ H x v vl vu lo hi sl Q I rx hs pl pu q
  cases x <;> first
    | exact (show False from q).elim
    | exact sl_str pins s σ H _ v vl vu lo hi sl Q I rx hs pl pu ⟨_, rfl, q⟩
    | exact (SlR.or sl_list sl_tupA) pins s σ H _ v vl vu lo hi sl Q I rx hs pl pu q
/-- a loop over a list or a tuple -/
def iSeq (K : PySem.W.Frag) (tl : TE) : TI := fun σ H R => tl σ H fun x H1 => ∃ a, x = .ref a ∧ ((∃ xs, SqL K H1 a xs ∧ R (Itl K a) H1) ∨ (∃ xs, SqT K H1 a xs ∧ R (Itt K a) H1))
theorem pi_seq {tg l : Expr} {tl : TE} (hl : PE X l tl) : PI X tg l (iSeq X.K tl) := by
  refine ⟨fun pins s σ H R I h => ?_⟩
  refine thn (hl.run pins s σ H _ I h) fun v s1 ⟨x, H1, I1, r1, a, e, q⟩ => ?_
  subst e
  cases r1
  rcases q with ⟨xs, hq, q⟩ | ⟨xs, hq, q⟩
  · obtain ⟨its, rv, p, hz⟩ := I1.list hq
    refine wpAny_pyIter_list p.isList ⟨s1.heap.objs.size, [s1.heap.objs.size], _, _, H1, rfl, I1.kept (t' := s1.toks) fun b o e => Heap.get?_push_of_some _ e, turn_list a _, ⟨_, Heap.get?_push_size _ rfl, rfl, rfl⟩, fun b hb => ?_, q⟩
    have e : b = s1.heap.objs.size := by simpa using hb
    subst e
    exact I1.fpOk (Nat.le_refl _) (I1.hok.fresh (Nat.le_refl _))
  · obtain ⟨its, rv, p, hz⟩ := I1.tuple hq
    refine wpAny_pyIter_tuple (show s1.heap.IsTuple a its.toArray from p) ⟨s1.heap.objs.size, [s1.heap.objs.size], _, _, H1, rfl, I1.kept (t' := s1.toks) fun b o e => Heap.get?_push_of_some _ e, turn_tuple a _, ⟨_, Heap.get?_push_size _ rfl, rfl, rfl⟩, fun b hb => ?_, q⟩
    have e : b = s1.heap.objs.size := by simpa using hb
    subst e
    exact I1.fpOk (Nat.le_refl _) (I1.hok.fresh (Nat.le_refl _))
/-- the module's constants -/
theorem pe_gint {x : Str} {i : Int} {pos : Pos} (hg : Gl X x) (hm : ∃ t, X.mg x = some (.int i t)) (hd : (x == ("__debug__" : Str)) = false := by decide) : PE X (.Name x pos) (tC (.int i)) := by
  obtain ⟨t, e⟩ := hm
  exact pe_glob hg e ⟨t, rfl⟩ hd
theorem pe_gstr {x z : Str} {pos : Pos} (hg : Gl X x) (hm : ∃ t, X.mg x = some (.str z t)) (hd : (x == ("__debug__" : Str)) = false := by decide) : PE X (.Name x pos) (tC (.str z)) := by
  obtain ⟨t, e⟩ := hm
  exact pe_glob hg e ⟨t, rfl⟩ hd
theorem passN {P : Program} {w : World} {X : Cx} : Passes (L2N.CX P w) X E0 := fun _ _ _ _ _ _ _ h => by
  obtain ⟨_, _, _, _, _, _, _, _, _, _, _, _, z⟩ := h
  exact z.elim
theorem noCX {P : Program} {w : World} {outer : List Env} : ∀ (s : Shared) (H : Hp) (e : Value) (s' : Shared), L2N.CX P w outer H s (fun _ _ _ => False) e s' → False := fun _ _ _ _ h => by
  obtain ⟨_, _, _, _, _, _, _, _, _, _, _, _, z⟩ := h
  exact z
/-- truth of any value -/
def tTr (K : PySem.W.Frag) (ta : TE) : TT := fun σ H Q => ta σ H fun x H' => ∃ k, TruV K x H' k ∧ Q k H'
theorem pt_tr {a : Expr} {ta : TE} (ha : PE X a ta) (he : ∀ whole, isTrue a X.env whole = (do let v ← whole; standAt a.pos; holding [v] (truthy v)) := by intro _; rfl) : PT X a (tTr X.K ta) := pt_truth ha he
end

/-! ### steps -/
section
variable {K : PySem.W.Frag} {D : Ends} {σ : L2.St} {H : Hp} {Q : VK} {QT : Bool → Hp → Prop} {QA : List V → Hp → Prop} {QO : Option Int → Hp → Prop} {QS : L2.St → Hp → Prop} {t u : TS} {te ta tb tc : TE} {tt tu : TT} {tA tB' : TA} {g : TG} {gs : TGs} {v x y z : V} {i j : Nat} {a b : Int} {p q : Addr}
theorem w_seq (h : t { D with nx := u D } σ H) : tSeq t u D σ H := h
theorem w_next (h : D.nx σ H) : tNext D σ H := h
theorem w_brk (h : D.bk σ H) : tBreak D σ H := h
theorem w_cont (h : D.ct σ H) : tCont D σ H := h
theorem w_drop (h : te σ H fun _ H1 => D.nx σ H1) : tDrop te D σ H := h
theorem w_ret (h : te σ H D.rt) : tRet te D σ H := h
theorem w_retN (h : D.rt .non H) : tRetN D σ H := h
theorem w_asg (h : te σ H fun x H1 => g x σ H1 D.nx) : tAsg te g D σ H := h
theorem w_gname (h : QS (σ.set i (some v)) H) : gName i v σ H QS := h
theorem w_gsub {r : TSet} (h : ta σ H fun o H1 => tb σ H1 fun k H2 => r o k v H2 fun H3 => QS σ H3) : gSub ta tb r v σ H QS := h
theorem w_if (h : tt σ H fun b H1 => if b = true then t D σ H1 else u D σ H1) : tIfS tt t u D σ H := h
theorem w_var (e : σ[i]? = some (some v)) (h : Q v H) : tVar i σ H Q := ⟨v, e, h⟩
theorem w_c (h : Q v H) : tC v σ H Q := h
theorem w_op {r : R2} (h : ta σ H fun x H1 => tb σ H1 fun y H2 => r x y H2 Q) : tOp r ta tb σ H Q := h
theorem w_un {r : V → Hp → VK → Prop} (h : ta σ H fun x H1 => r x H1 Q) : tUn r ta σ H Q := h
theorem w_I0 {f : Int → Int → V} (h : Q (f a b) H) : rI0 f (.int a) (.int b) H Q := ⟨a, b, rfl, rfl, h⟩
theorem w_I {C : Int → Int → Prop} {f : Int → Int → V} (c : C a b) (h : Q (f a b) H) : rI C f (.int a) (.int b) H Q := ⟨a, b, rfl, rfl, c, h⟩
theorem w_U {f : Int → V} (h : Q (f a) H) : rU f (.int a) H Q := ⟨a, rfl, h⟩
theorem w_add (h : Q (.int (a + b)) H) : uAdd K (.int a) (.int b) H Q := h
theorem w_adds {s r : Str} (l : s.length + r.length ≤ sizeLine) (h : Q (.str (s ++ r)) H) : uAdd K (.str s) (.str r) H Q := ⟨l, h⟩
theorem w_mul (c : CMul a b) (h : Q (.int (a * b)) H) : uMul (.int a) (.int b) H Q := ⟨c, h⟩
theorem w_eqI (h : Q (.bl (decide (a = b))) H) : uEq K (.int a) (.int b) H Q := ⟨rfl, by
  have e : decide (V.int a = V.int b) = decide (a = b) := by
    by_cases c : a = b
    · rw [c]; simp
    · rw [decide_eq_false c, decide_eq_false fun z => c (V.int.inj z)]
  rw [e]
  exact h⟩
theorem w_eqS {s r : Str} (h : Q (.bl (decide (s = r))) H) : uEq K (.str s) (.str r) H Q := ⟨rfl, by
  have e : decide (V.str s = V.str r) = decide (s = r) := by
    by_cases c : s = r
    · rw [c]; simp
    · rw [decide_eq_false c, decide_eq_false fun z => c (V.str.inj z)]
  rw [e]
  exact h⟩
theorem w_eqB {s r : Bool} (h : Q (.bl (decide (s = r))) H) : uEq K (.bl s) (.bl r) H Q := ⟨rfl, by
  have e : decide (V.bl s = V.bl r) = decide (s = r) := by cases s <;> cases r <;> rfl
  rw [e]
  exact h⟩
theorem w_neI (h : Q (.bl (!decide (a = b))) H) : uNe K (.int a) (.int b) H Q := ⟨rfl, by
  have e : decide (V.int a = V.int b) = decide (a = b) := by
    by_cases c : a = b
    · rw [c]; simp
    · rw [decide_eq_false c, decide_eq_false fun z => c (V.int.inj z)]
  rw [e]
  exact h⟩
theorem w_neS {s r : Str} (h : Q (.bl (!decide (s = r))) H) : uNe K (.str s) (.str r) H Q := ⟨rfl, by
  have e : decide (V.str s = V.str r) = decide (s = r) := by
    by_cases c : s = r
    · rw [c]; simp
    · rw [decide_eq_false c, decide_eq_false fun z => c (V.str.inj z)]
  rw [e]
  exact h⟩
theorem w_neB {s r : Bool} (h : Q (.bl (!decide (s = r))) H) : uNe K (.bl s) (.bl r) H Q := ⟨rfl, by
  have e : decide (V.bl s = V.bl r) = decide (s = r) := by cases s <;> cases r <;> rfl
  rw [e]
  exact h⟩
theorem w_test (h : te σ H fun x H' => ∃ k, x = .bl k ∧ QT k H') : tTest te σ H QT := h
theorem w_tB (h : te σ H fun x H' => ∃ k, x = .bl k ∧ QT k H') : L2.tB te σ H QT := h
theorem w_tr (h : te σ H fun x H' => ∃ k, TruV K x H' k ∧ QT k H') : tTr K te σ H QT := h
theorem w_exb {k : Bool} (h : QT k H) : ∃ k', V.bl k = V.bl k' ∧ QT k' H := ⟨k, rfl, h⟩
theorem w_exn {k : Bool} {R : Bool → Prop} (h : R k) : ∃ k', V.bl k = V.bl k' ∧ R k' := ⟨k, rfl, h⟩
theorem w_trB {k : Bool} (h : QT k H) : ∃ k', TruV K (.bl k) H k' ∧ QT k' H := ⟨k, rfl, h⟩
theorem w_and (h : tt σ H fun c H1 => if c = true then tu σ H1 QT else QT false H1) : tAnd tt tu σ H QT := h
theorem w_or (h : tt σ H fun c H1 => if c = true then QT true H1 else tu σ H1 QT) : tOr tt tu σ H QT := h
theorem w_not (h : tt σ H fun c H1 => QT (!c) H1) : tNot tt σ H QT := h
theorem w_andV (h : ta σ H fun x H1 => ∃ c, x = .bl c ∧ if c = true then tb σ H1 Q else Q (.bl false) H1) : tAndV ta tb σ H Q := h
theorem w_orV (h : ta σ H fun x H1 => ∃ c, x = .bl c ∧ if c = true then Q (.bl true) H1 else tb σ H1 Q) : tOrV ta tb σ H Q := h
theorem w_notV (h : ta σ H fun x H1 => ∃ c, x = .bl c ∧ Q (.bl (!c)) H1) : tNotV ta σ H Q := h
theorem w_ifE (h : tt σ H fun c H1 => if c = true then ta σ H1 Q else tb σ H1 Q) : tIf tt ta tb σ H Q := h
theorem w_nil (h : QA [] H) : tNil σ H QA := h
theorem w_cons (h : te σ H fun x H1 => tA σ H1 fun xs H2 => QA (x :: xs) H2) : tCons te tA σ H QA := h
theorem w_cb {r : List V → Hp → VK → Prop} (h : tA σ H fun vs H1 => r vs H1 Q) : tCB r tA σ H Q := h
theorem w_call {sp : Sp} {dvs : List V} {E : XK} (h : tA σ H fun vs H1 => sp (vs ++ dvs) H1 Q E) : tCall sp dvs E tA σ H Q := h
theorem w_call0 {sp : Sp} {E : XK} (h : tA σ H fun vs H1 => sp vs H1 Q E) : tCall sp [] E tA σ H Q := by
  show tA σ H fun vs H1 => sp (vs ++ []) H1 Q E
  have e : (fun vs H1 => sp (vs ++ []) H1 Q E) = fun vs H1 => sp vs H1 Q E := by
    funext vs H1
    rw [List.append_nil]
  rw [e]
  exact h
theorem w_callS {sp : Sp} {E : L2.St → XK} (h : tA σ H fun vs H1 => sp vs H1 Q (E σ)) : tCallS sp E tA σ H Q := h
theorem w_callK {sp : Sp} {gV : List V → List V → List V} {E : XK} (h : tA σ H fun vs H1 => tB' σ H1 fun zs H2 => sp (gV vs zs) H2 Q E) : tCallK sp gV E tA tB' σ H Q := h
theorem w_tup (h : tA σ H fun xs H1 => xs.length ≤ sizeLine ∧ ∀ p, H1 p = none → Q (.ref p) (upd H1 p (.tup xs))) : tTup tA σ H Q := h
theorem w_lst (h : tA σ H fun xs H1 => xs.length ≤ sizeLine ∧ ∀ p, H1 p = none → Q (.ref p) (upd H1 p (.lst xs))) : tLst tA σ H Q := h
theorem w_bm {T : String} {r : V → List V → Hp → VK → Prop} (h : te σ H fun x H1 => tyV K T x H1 ∧ tA σ H1 fun xs H2 => r x xs H2 Q) : tBM K T r te tA σ H Q := h
theorem w_bm0 {T : String} {r : V → List V → Hp → VK → Prop} (h : te σ H fun x H1 => tyV K T x H1 ∧ r x [] H1 Q) : tBM0 K T r te σ H Q := h
theorem w_nop (h : QO none H) : tNoPart σ H QO := h
theorem w_part (h : te σ H fun x H1 => ∃ i, x = .int i ∧ QO (some i) H1) : tPart te σ H QO := h
theorem w_exi {R : Int → Prop} (h : R a) : ∃ i, V.int a = V.int i ∧ R i := ⟨a, rfl, h⟩
theorem w_sl {r : V → Option Int → Option Int → Hp → VK → Prop} {tl th : TO} (h : te σ H fun x H1 => tl σ H1 fun l H2 => th σ H2 fun u H3 => r x l u H3 Q) : tSl r te tl th σ H Q := h
theorem w_isN (h : Q (.bl (decide (x = .non))) H) : (fun (x y : V) (H : Hp) (Q : VK) => y = V.non ∧ Q (.bl (decide (x = .non))) H) x .non H Q := ⟨rfl, h⟩
theorem w_iteT {A B : Prop} (h : A) : if true = true then A else B := by rw [if_pos rfl]; exact h
theorem w_iteF {A B : Prop} (h : B) : if false = true then A else B := by rw [if_neg Bool.false_ne_true]; exact h
theorem w_dec {c A B : Prop} [Decidable c] (h1 : c → A) (h2 : ¬ c → B) : if decide c = true then A else B := by
  by_cases e : c
  · rw [if_pos (decide_eq_true e)]; exact h1 e
  · rw [if_neg (by simpa using e)]; exact h2 e
theorem w_ndec {c A B : Prop} [Decidable c] (h1 : ¬ c → A) (h2 : c → B) : if (!decide c) = true then A else B := by
  by_cases e : c
  · rw [if_neg (by simp [e])]; exact h2 e
  · rw [if_pos (by simp [e])]; exact h1 e
theorem w_bool {c : Bool} {A B : Prop} (h1 : c = true → A) (h2 : c = false → B) : if c = true then A else B := by
  cases c
  · exact w_iteF (h2 rfl)
  · exact w_iteT (h1 rfl)
theorem w_yes {c : Bool} {A B : Prop} (e : c = true) (h : A) : if c = true then A else B := by rw [if_pos e]; exact h
theorem w_no {c : Bool} {A B : Prop} (e : c = false) (h : B) : if c = true then A else B := by rw [if_neg (by rw [e]; decide)]; exact h
end
end U
end
section
set_option Elab.async false
set_option linter.all false
set_option maxRecDepth 100000
set_option maxHeartbeats 4000000
/-! built-ins by the kinds of their arguments -/
namespace U
open PySem PySem.Spec PyProof.Rows L2 LamX
section
variable {X : Cx} {K : PySem.W.Frag}
/-- a list or a tuple -/
def Sq (K : PySem.W.Frag) (H : Hp) (a : Addr) (xs : List V) : Prop := SqL K H a xs ∨ SqT K H a xs
theorem Gr.sq {T : List (Addr × Str)} {H H' : Hp} {p : Addr} {xs : List V} (g : Gr T H H') (h : Sq K H p xs) : Sq K H' p xs := h.elim (fun z => .inl (g.sqL z)) fun z => .inr (g.sqT z)
/-- x[i] -/
def uIx (K : PySem.W.Frag) : R2 := fun x y H Q => match x, y with
  | .str z, .int i => ∃ c, z.length ≤ sizeLine ∧ atI z.cps.toList i = some c ∧ Q (.str ⟨#[c]⟩) H
  | .ref p, .int i => ∃ xs v, Sq K H p xs ∧ atI xs i = some v ∧ Q v H
  | _, _ => False
theorem ix_u : IxR X (uIx X.K) := by
  intro a b pins s σ H x y u v Q I rx ry h hs
  cases x <;> cases y <;> first
    | exact (show False from h).elim
    | (obtain ⟨c, h1, h2, h3⟩ := h
       exact ix_str a b pins s σ H _ _ u v Q I rx ry ⟨_, _, c, rfl, rfl, h1, h2, h3⟩ hs)
    | (obtain ⟨xs, c, h1, h2, h3⟩ := h
       rcases h1 with h1 | h1
       · exact ix_list a b pins s σ H _ _ u v Q I rx ry ⟨_, xs, _, c, rfl, rfl, h1, h2, h3⟩ hs
       · exact ix_tup a b pins s σ H _ _ u v Q I rx ry ⟨_, xs, _, c, rfl, rfl, h1, h2, h3⟩ hs)
/-- len(x) -/
def uLen (K : PySem.W.Frag) : List V → Hp → VK → Prop := fun vs H Q => match vs with
  | [.str z] => z.length ≤ sizeLine ∧ Q (.int z.length) H
  | [.ref p] => ∃ xs, Sq K H p xs ∧ Q (.int xs.length) H
  | _ => False
theorem cr_len : CallR X (.builtin "len") (uLen X.K) := by
  intro pins s σ H vs us Q I r h
  match vs, h with
  | [.str z], h => exact call_len_str pins s σ H _ us Q I r ⟨z, rfl, h.1, h.2⟩
  | [.ref p], h =>
    obtain ⟨xs, h1, h2⟩ := h
    exact call_len_seq pins s σ H _ us Q I r ⟨p, xs, rfl, h1, h2⟩
/-- sum(x) of ints -/
def uSum (K : PySem.W.Frag) : List V → Hp → VK → Prop := fun vs H Q => ∃ (a : Addr) (ns : List Int), vs = [V.ref a] ∧ Sq K H a (ns.map V.int) ∧ Q (.int ns.sum) H
theorem old_keptT {s : Shared} {l : Addr} {h' : Heap} (hk : ∀ b o, b ∉ [s.heap.objs.size] → (s.heap.push { cls := .type "tuple_iterator", data := .fields #[.ref l, .int 0 0] }).get? b = some o → h'.get? b = some o) :
    ∀ b o, s.heap.get? b = some o → h'.get? b = some o := fun b o e => hk b o (by simpa using Nat.ne_of_lt (Heap.lt_size e)) (Heap.get?_push_of_some _ e)
theorem sum_tup {prog : Program} {w : World} {A : Around} {E : Value → Shared → Prop} {s : Shared} {l : Addr} {its : List Value} {ns : List Int} {Q : Value → Shared → Prop} (hh : A.handled = none) (hl : s.heap.IsTuple l its.toArray) (hi : IntsAre its ns)
    (h : ∀ h' tk t', (∀ b o, s.heap.get? b = some o → h'.get? b = some o) → Q (.int ns.sum t') { s with heap := h', toks := tk }) : wpAny (model prog w) A (call (.builtin "sum") [.ref l]) Q E s := by
  obtain ⟨xs, e⟩ := hi.allInts.items
  have hn : numsOf (intItems xs).toList = ns := by rw [← e]; exact hi.numsOf
  rw [nums_intItems] at hn
  rw [e] at hl
  have hlt : l < s.heap.objs.size := by obtain ⟨_, e, _⟩ := hl; exact Heap.lt_size e
  refine call_sum_walkG (wpAny_pyIter_tuple hl ⟨_, _, _, _, _, _, numAt xs, rfl, Walks.tuple (A := A.in1) hh _ l (Nat.ne_of_lt hlt) (intItems xs), ⟨⟨_, Heap.get?_push_size _ rfl, rfl, rfl⟩, hl.at fun o e => Heap.get?_push_of_some _ e⟩, fun b hb => ?_, (fun _ _ => intItems_at), fun h' tk t' hk => ?_⟩)
  · show b < (s.heap.push _).objs.size
    rw [Heap.size_push]
    rcases List.mem_cons.mp hb with rfl | hb
    · exact Nat.lt_succ_self _
    · rcases List.mem_cons.mp hb with rfl | hb
      · exact Nat.lt_succ_of_lt hlt
      · cases hb
  · have := h h' tk t' (old_keptT hk)
    rw [preSum_eq]
    have e2 : (intItems xs).size = xs.size := by simp [intItems]
    rw [e2, List.take_of_length_le (by simp), hn]
    exact this
theorem cr_sum (hc : X.calm = true) : CallR X (.builtin "sum") (uSum X.K) := by
  intro pins s σ H vs us Q I r h
  obtain ⟨a, ns, rfl, hs | hs, q⟩ := h
  · exact L2.cr_sum hc pins s σ H _ us Q I r ⟨a, ns, rfl, hs, q⟩
  · obtain ⟨its, rv, ht, _⟩ := I.tuple hs
    rw [Vals.ref1 r]
    exact sum_tup (I.ok.hd hc) (show s.heap.IsTuple a its.toArray from ht) rv.ints fun h' tk t' hk => ⟨.int _, H, I.kept hk, ⟨_, rfl⟩, q⟩
/-- max(list, default=d) of ints -/
def rMaxDf (K : PySem.W.Frag) : List V → List V → Hp → VK → Prop := fun vs zs H Q => ∃ (a : Addr) (ns : List Int) (d : Int), vs = [V.ref a] ∧ zs = [.int d] ∧ SqL K H a (ns.map V.int) ∧ Q (.int (match ns with | [] => d | n :: r => r.foldl max n)) H
theorem reads_ints {h : Heap} : ∀ {us : List Value} {ns : List Int}, IntsAre us ns → ∃ as, ReadsAll h us (ns.map PyData.int) as
  | _, _, .nil => ⟨_, .nil⟩
  | _, _, .cons a t r => by
    obtain ⟨as, q⟩ := reads_ints r
    exact ⟨_, .cons (.int a t) q⟩
theorem depth_ints : ∀ ns : List Int, PyData.depthAll (ns.map PyData.int) ≤ 1
  | [] => Nat.zero_le _
  | n :: r => by
    show max _ _ ≤ 1
    exact Nat.max_le.mpr ⟨Nat.le_refl 1 |> fun _ => by first | exact Nat.zero_le _ | exact Nat.le_refl _ | simp [PyData.depth], depth_ints r⟩
theorem reads_int {h : Heap} {v : Value} {i : Int} {bs : List Addr} (r : Reads h v (.int i) bs) : ∃ t, v = .int i t := by
  cases r
  exact ⟨_, rfl⟩
theorem cr_maxD (hc : X.calm = true) (hu : X.A.units + 64 < cLine) : CallRK X (.builtin "max") [Str.ofString "default"] (rMaxDf X.K) := by
  intro pins s σ H vs zs us ws Q I r rz h
  obtain ⟨a, ns, d, rfl, rfl, hs, q⟩ := h
  obtain ⟨its, rv, hl, _⟩ := I.list hs
  rw [Vals.ref1 r]
  obtain ⟨w1, rfl, t1, rfl⟩ := vals1 rz
  obtain ⟨as, hr⟩ := reads_ints (h := s.heap) rv.ints
  have al : PySem.W.AlikeAll (ns.map PyData.int) := by
    refine ⟨fun x hx y hy => ?_, fun x hx => ?_⟩
    · obtain ⟨i, _, rfl⟩ := List.mem_map.mp hx
      obtain ⟨j, _, rfl⟩ := List.mem_map.mp hy
      rfl
    · obtain ⟨i, _, rfl⟩ := List.mem_map.mp hx
      intro z
      cases z
  refine PySem.W.max_list_default (l := a) (vs := its.toArray) (xs := ns.map PyData.int) (as := as) (d := .int d t1) (I.ok.hd hc) hl.isList (by simpa using hr) al (by have := depth_ints ns; omega) (fun e h' tk hk => ?_) (fun y ys i v h' tk bs e hv hrd hk => ?_)
  · have e2 : ns = [] := List.map_eq_nil_iff.mp e
    subst e2
    exact ⟨.int d, H, I.kept hk, ⟨_, rfl⟩, q⟩
  · cases ns with
    | nil => cases e
    | cons n r =>
      obtain ⟨rfl, rfl⟩ : PyData.int n = y ∧ r.map PyData.int = ys := by
        have := List.cons.inj e
        exact this
      rw [PySem.W.maxD_ints] at hrd
      obtain ⟨t, rfl⟩ := reads_int hrd
      exact ⟨.int _, H, I.kept hk, ⟨_, rfl⟩, q⟩
/-- int(x) -/
def uInt : List V → Hp → VK → Prop := fun vs H Q => match vs with
  | [.int i] => Q (.int i) H
  | [.bl k] => Q (.int (if k then 1 else 0)) H
  | [.str a] => ∃ n, PySem.intText? a = some n ∧ a.length ≤ 640 ∧ Q (.int n) H
  | _ => False
theorem cr_int : CallR X (.type "int") uInt := by
  intro pins s σ H vs us Q I r h
  match vs, h with
  | [.int i], h => exact call_int1 pins s σ H _ us Q I r (.inl ⟨i, rfl, h⟩)
  | [.bl k], h => exact call_int1 pins s σ H _ us Q I r (.inr ⟨k, rfl, h⟩)
  | [.str a], h =>
    obtain ⟨n, h1, h2, h3⟩ := h
    exact call_int_str pins s σ H _ us Q I r ⟨a, n, rfl, h1, h2, h3⟩
/-- str(i) -/
def uStr : List V → Hp → VK → Prop := fun vs H Q => match vs with
  | [.int i] => i.natAbs.log2 < 1920 ∧ Q (.str (toString i)) H
  | _ => False
theorem cr_str : CallR X (.type "str") uStr := by
  intro pins s σ H vs us Q I r h
  match vs, h with
  | [.int i], h => exact call_str_int pins s σ H _ us Q I r ⟨i, rfl, h⟩
/-- abs, min, max of ints -/
def uAbs : List V → Hp → VK → Prop := fun vs H Q => match vs with
  | [.int i] => Q (.int (i.natAbs : Int)) H
  | _ => False
theorem cr_abs : CallR X (.builtin "abs") uAbs := by
  intro pins s σ H vs us Q I r h
  match vs, h with
  | [.int i], h =>
    refine call_abs pins s σ H _ us Q I r ⟨i, rfl, ?_⟩
    have e : (if i < 0 then -i else i) = (i.natAbs : Int) := by split <;> omega
    rw [e]
    exact h
def uMax : List V → Hp → VK → Prop := fun vs H Q => match vs with
  | [.int i, .int j] => Q (.int (max i j)) H
  | [.int i, .int j, .int k] => Q (.int (max (max i j) k)) H
  | _ => False
theorem cr_max (hc : X.calm = true) : CallR X (.builtin "max") uMax := by
  intro pins s σ H vs us Q I r h
  match vs, h with
  | [.int i, .int j], h =>
    refine call_max2 hc pins s σ H _ us Q I r ⟨i, j, rfl, ?_⟩
    have e : (if j > i then j else i) = max i j := by split <;> omega
    rw [e]
    exact h
  | [.int i, .int j, .int k], h =>
    refine call_max3Nu hc pins s σ H _ us Q I r ⟨.int i, .int j, .int k, .int (max (max i j) k), rfl, ?_, h⟩
    have e : ∀ a b : Int, nuMax2 (.int a) (.int b) = some (.int (max a b)) := fun a b => by
      show (some (decide (a < b))).map (fun c => if c = true then V.int b else V.int a) = _
      by_cases z : a < b
      · rw [decide_eq_true z, show max a b = b by omega]; rfl
      · rw [decide_eq_false z, show max a b = a by omega]; rfl
    show (nuMax2 (.int i) (.int j)).bind _ = _
    rw [e]
    exact e _ _
def uMin : List V → Hp → VK → Prop := fun vs H Q => match vs with
  | [.int i, .int j] => Q (.int (min i j)) H
  | _ => False
theorem cr_min (hc : X.calm = true) : CallR X (.builtin "min") uMin := by
  intro pins s σ H vs us Q I r h
  match vs, h with
  | [.int i, .int j], h =>
    refine call_min2 hc pins s σ H _ us Q I r ⟨i, j, rfl, ?_⟩
    have e : (if j < i then j else i) = min i j := by split <;> omega
    rw [e]
    exact h
/-- list(x), tuple(x) -/
def uList (K : PySem.W.Frag) : List V → Hp → VK → Prop := fun vs H Q => match vs with
  | [.ref p] => ∃ xs, Sq K H p xs ∧ ∀ l, H l = none → Q (.ref l) (upd H l (.lst xs))
  | _ => False
theorem cr_list : CallR X (.type "list") (uList X.K) := by
  intro pins s σ H vs us Q I r h
  match vs, h with
  | [.ref p], h =>
    obtain ⟨xs, h1, h2⟩ := h
    exact call_list_of pins s σ H _ us Q I r ⟨p, xs, rfl, h1, h2⟩
def uTup (K : PySem.W.Frag) : List V → Hp → VK → Prop := fun vs H Q => match vs with
  | [.ref p] => ∃ ys, (SqL K H p ys ∧ ∀ l, H l = none → Q (.ref l) (upd H l (.tup ys))) ∨ (SqT K H p ys ∧ Q (.ref p) H)
  | _ => False
theorem cr_tuple : CallR X (.type "tuple") (uTup X.K) := by
  intro pins s σ H vs us Q I r h
  match vs, h with
  | [.ref p], h =>
    obtain ⟨xs, h⟩ := h
    exact call_tuple_of pins s σ H _ us Q I r ⟨p, xs, rfl, h⟩
end
end U
end
section
set_option Elab.async false
set_option linter.all false
set_option maxRecDepth 100000
set_option maxHeartbeats 4000000
/-! defs of the text: what they have, their calls; raises of own exceptions -/
namespace U
open PySem PySem.Spec PyProof.Rows L2 LamX
abbrev qSub : R2 := rI0 fun i j => .int (i - j)
abbrev qFdiv : R2 := rI CDiv fun i j => .int (i / j)
abbrev qMod : R2 := rI (fun _ j => 0 < j) fun i j => .int (i % j)
abbrev qPow : R2 := rI CPow fun i j => .int (i ^ j.toNat)
abbrev qAnd : R2 := rI0 fun i j => .int (Builtin.bitAnd i j)
abbrev qLt : R2 := rI0 fun i j => .bl (decide (i < j))
abbrev qLe : R2 := rI0 fun i j => .bl (decide (i ≤ j))
abbrev qGt : R2 := rI0 fun i j => .bl (decide (j < i))
abbrev qGe : R2 := rI0 fun i j => .bl (decide (j ≤ i))
abbrev qNeg : V → Hp → VK → Prop := rU fun i => .int (-i)
abbrev qJoin (K : PySem.W.Frag) : V → List V → Hp → VK → Prop := fun x xs H Q => ∃ a p, ∃ ys : List Str, x = .str a ∧ xs = [.ref p] ∧ (SqL K H p (ys.map V.str) ∨ SqT K H p (ys.map V.str)) ∧ (ys.map (·.length)).sum + ys.length * a.length ≤ 16777216 ∧ Q (.str (Txt.join a ys)) H
abbrev qSplit : V → List V → Hp → VK → Prop := fun x xs H Q => ∃ a b, x = .str a ∧ xs = [.str b] ∧ (b.length == 0) = false ∧ a.length + 2 ≤ sizeLine ∧ rNewStrs (Txt.split a b) H Q
/-- the def x stands, and keeps sp -/
structure Has (P : Program) (w : World) (K : PySem.W.Frag) (mg : Str → Option Value) (base : Heap) (x : Str) (k : Nat) (ps : List Str) (sp : Sp) : Prop where
  g : mg x = some (.ref (He.ga K x))
  kp : PySem.W.keepIn K (.ref (He.ga K x)) = true
  fn : ∃ fd, FnOk P w K mg base (L2N.CX P w) k (He.ga K x) fd ps sp ∧ Binds K fd ps []
theorem Has.imp {P : Program} {w : World} {K : PySem.W.Frag} {mg : Str → Option Value} {base : Heap} {x : Str} {k : Nat} {ps : List Str} {sp sp' : Sp} (h : Has P w K mg base x k ps sp) (i : ∀ vs H Q E, sp' vs H Q E → sp vs H Q E) : Has P w K mg base x k ps sp' := by
  obtain ⟨g, kp, fd, F, B⟩ := h
  exact ⟨g, kp, fd, F.imp i, B⟩
section
variable {X : Cx} {k n : Nat} {x : Str} {ps : List Str} {sp : Sp} {E : XK} {e : Expr} {es : List Expr} {t : TA} {p pos : Pos}
theorem pe_callU (h : Has X.prog X.w X.K X.mg X.base x k ps sp) (hr : Room n X.A) (hk : k ≤ n) (hg : Gl X x) (hx : Passes (L2N.CX X.prog X.w) X E) (ha : PA X (e :: es) t)
    (hdb : (x == ("__debug__" : Str)) = false := by decide) (he : starEach (e :: es) X.env = (false, eval e X.env) :: starEach es X.env := by rfl) (hpl : (backTo pos (starEach es X.env)).any (·.1) = false := by rfl) :
    PE X (.Call (.Name x p) (e :: es) [] pos) (tCall sp [] E t) := by
  obtain ⟨g, kp, fd, F, B⟩ := h
  exact pe_call F (hr.mono hk) hg g kp B .nil hx ha hdb he hpl
/-- C(v) with __init__(self, f): self.f = f, and so with two -/
def spI (C : Addr) (fs : List Str) : Sp := fun vs H Q _ => ∃ a ws, vs = .ref a :: ws ∧ ws.length = fs.length ∧ H a = some (exo a C none) ∧
  ∀ d H', H d = none → d ≠ a → H' = upd (upd H d (exd d (fs.zip ws).reverse)) a (exo a C (some d)) → Q .non H'
/-- raise C(e, ..) -/
def tRaise (C : Addr) (fs : List Str) (W : WX) (ta : TA) : TS := fun _ σ H => ta σ H fun vs H1 => vs.length = fs.length ∧ ∀ d, H1 d = none → W (.ref C) (some d) σ (upd H1 d (.xd (fs.zip vs).reverse))
theorem mk_read {C : Addr} {fs : List Str} {ta : TA} {σ : L2.St} {H : Hp} {Q : XK} (hf : fs.length ≤ 900) (h : ta σ H fun vs H1 => vs.length = fs.length ∧ ∀ d, H1 d = none → Q (.ref C) (some d) (upd H1 d (.xd (fs.zip vs).reverse)))
    (mono : ∀ {P R : List V → Hp → Prop}, (∀ vs H, P vs H → R vs H) → ta σ H P → ta σ H R) : tMkO C (spI C fs) [] ta σ H Q := by
  refine mono (fun vs H1 h => ?_) h
  obtain ⟨hl, q⟩ := h
  refine ⟨by omega, fun a na => ?_⟩
  rw [List.append_nil]
  refine ⟨a, vs, rfl, hl, upd_same, fun d H' nd da e => ?_⟩
  have nd1 : H1 d = none := by rw [upd_ne da] at nd; exact nd
  refine ⟨rfl, d, (fs.zip vs).reverse, by rw [e]; exact upd_same, by rw [e, upd_ne da]; exact upd_same, nd1, ?_⟩
  have eh : upd (del H' a) d (.xd (fs.zip vs).reverse) = upd H1 d (.xd (fs.zip vs).reverse) := by
    rw [e]
    funext b
    by_cases hb : b = d
    · rw [hb, upd_same, upd_same]
    · rw [upd_ne hb, upd_ne hb]
      by_cases ha : b = a
      · rw [ha, del_same, na]
      · rw [del_ne ha, upd_ne ha, upd_ne hb, upd_ne ha]
  rw [eh]
  exact q d nd1
/-- what an argument list tells is told of whatever follows -/
def MonoA (ta : TA) : Prop := ∀ (σ : L2.St) (H : Hp) (P R : List V → Hp → Prop), (∀ vs H, P vs H → R vs H) → ta σ H P → ta σ H R
def MonoE (te : TE) : Prop := ∀ (σ : L2.St) (H : Hp) (P R : VK), (∀ v H, P v H → R v H) → te σ H P → te σ H R
theorem mono_nil : MonoA tNil := fun _ _ _ _ i h => i _ _ h
theorem mono_cons {te : TE} {ta : TA} (h1 : MonoE te) (h2 : MonoA ta) : MonoA (tCons te ta) := fun σ H P R i h => h1 σ H _ _ (fun v H1 q => h2 σ H1 _ _ (fun vs H2 z => i _ _ z) q) h
theorem mono_var {i : Nat} : MonoE (tVar i) := fun _ _ _ _ i h => by
  obtain ⟨v, e, q⟩ := h
  exact ⟨v, e, i _ _ q⟩
theorem mono_c {v : V} : MonoE (tC v) := fun _ _ _ _ i h => i _ _ h
theorem mono_cb {r : List V → Hp → VK → Prop} {ta : TA} (h1 : MonoA ta) (h2 : ∀ vs H P R, (∀ v H, P v H → R v H) → r vs H P → r vs H R) : MonoE (tCB r ta) := fun σ H P R i h => h1 σ H _ _ (fun vs H1 q => h2 _ _ _ _ i q) h
theorem mono_abs {ta : TA} (h1 : MonoA ta) : MonoE (tCB uAbs ta) := mono_cb h1 fun vs H P R i h => by
  unfold uAbs at h ⊢
  split at h
  · exact i _ _ h
  · exact h
theorem ps_raiseU {W : WX} {C : Addr} {fs : List Str} {fd : FuncData} {ps : List Str} {rp : Pos} (hc : X.calm = true) (tk : L2N.Takes X W) (O : LE.Own X.K C)
    (F1 : FnOk X.prog X.w X.K X.mg X.base (L2N.CX X.prog X.w) 1 (He.ma X.K C "__init__") fd ps (spI C fs)) (hb : Binds X.K fd ps []) (hr : Room n X.A) (hk : 2 ≤ n) (hg : Gl X x) (hm : X.mg x = some (.ref C)) (hf : fs.length ≤ 900) (mono : MonoA t) (ha : PA X (e :: es) t)
    (hdb : (x == ("__debug__" : Str)) = false := by decide) (he : starEach (e :: es) X.env = (false, eval e X.env) :: starEach es X.env := by rfl) (hpl : (backTo pos (starEach es X.env)).any (·.1) = false := by rfl) :
    PS X (.Raise (some (.Call (.Name x p) (e :: es) [] pos)) none rp) (tRaise C fs W t) := by
  have h := L2N.ps_raise (pos := rp) hc tk (LE.pmk_oexN (p := p) (pos := pos) O.oex O.ini O.tyI F1 (hr.mono hk) hb noCX hg hm ha hdb he hpl)
  exact ⟨fun pins s σ H D I q => h.run pins s σ H D I (mk_read hf q (fun i z => mono _ _ _ _ i z))⟩
end
/-! ### __init__ -/
section
variable {P : Program} {w : World} {K : PySem.W.Frag} {mg : Str → Option Value} {base : Heap} {f C : Addr} {fd : FuncData} {x1 q1 : Str} {ar : Arguments} {sc : Scope} {a b : Str}
theorem ok_init1 {p1 p2 p3 p4 : Pos} (F : FunD K x1 q1 ar [.Assign [.Attribute (.Name "self" p1) a p2] (.Name a p3) p4] sc [] [] f fd) (S : FnScope ["self", a] ["self", a] sc) (O : LE.Own K C) (no : PySem.W.findIn K (.ref C) a = some none)
    (h1 : sc.names.lookup ("self" : Str) = some .local) (h2 : sc.names.lookup a = some .local) (hd : (a == ("__debug__" : Str)) = false) (hcd : (a == ("__classdict__" : Str)) = false)
    (hs : ∀ (cdv : Value) (L : Addr), swapsWith (.Name a p3) (some (.Attribute (.Name "self" p1) a p2)) p4.line (envOfC q1 sc L f cdv) = pure false) : FnOk P w K mg base (L2N.CX P w) 1 f fd ["self", a] (spI C [a]) := by
  refine F.ok S (fun vs H Q E h => ?_) (fun cdv A outer s H vs Q E hr h => ?_)
  · obtain ⟨a, ws, rfl, hl, _⟩ := h
    show ws.length + 1 = 2
    have e : ws.length = 1 := hl
    omega
  · obtain ⟨o, ws, rfl, hl, ho, q⟩ := h
    match ws, hl with
    | [v], _ =>
      refine ⟨_, pss_one (ps_ost (pe_var (i := 0) rfl (.inl h1)) (pe_var (i := 1) rfl (.inl h2) hd hcd) (hs cdv _)), ?_⟩
      refine ⟨v, rfl, .ref o, rfl, o, C, rfl, O.oex, no, .inl ⟨ho, fun d nd da => ?_⟩⟩
      exact q d _ nd da rfl
theorem ok_init2 {p1 p2 p3 p4 r1 r2 r3 r4 : Pos} (F : FunD K x1 q1 ar [.Assign [.Attribute (.Name "self" p1) a p2] (.Name a p3) p4, .Assign [.Attribute (.Name "self" r1) b r2] (.Name b r3) r4] sc [] [] f fd) (S : FnScope ["self", a, b] ["self", a, b] sc) (O : LE.Own K C) (no : PySem.W.findIn K (.ref C) a = some none) (no2 : PySem.W.findIn K (.ref C) b = some none)
    (h1 : sc.names.lookup ("self" : Str) = some .local) (h2 : sc.names.lookup a = some .local) (h3 : sc.names.lookup b = some .local) (hd : (a == ("__debug__" : Str)) = false) (hcd : (a == ("__classdict__" : Str)) = false) (hd2 : (b == ("__debug__" : Str)) = false) (hcd2 : (b == ("__classdict__" : Str)) = false)
    (hs : ∀ (cdv : Value) (L : Addr), swapsWith (.Name a p3) (some (.Attribute (.Name "self" p1) a p2)) p4.line (envOfC q1 sc L f cdv) = pure false) (hs2 : ∀ (cdv : Value) (L : Addr), swapsWith (.Name b r3) (some (.Attribute (.Name "self" r1) b r2)) r4.line (envOfC q1 sc L f cdv) = pure false) : FnOk P w K mg base (L2N.CX P w) 1 f fd ["self", a, b] (spI C [a, b]) := by
  refine F.ok S (fun vs H Q E h => ?_) (fun cdv A outer s H vs Q E hr h => ?_)
  · obtain ⟨a, ws, rfl, hl, _⟩ := h
    show ws.length + 1 = 3
    have e : ws.length = 2 := hl
    omega
  · obtain ⟨o, ws, rfl, hl, ho, q⟩ := h
    match ws, hl with
    | [v, u], _ =>
      refine ⟨_, pss_cons (ps_ost (pe_var (i := 0) rfl (.inl h1)) (pe_var (i := 1) rfl (.inl h2) hd hcd) (hs cdv _)) (pss_one (ps_ost (pe_var (i := 0) rfl (.inl h1)) (pe_var (i := 2) rfl (.inl h3) hd2 hcd2) (hs2 cdv _))), ?_⟩
      refine ⟨v, rfl, .ref o, rfl, o, C, rfl, O.oex, no, .inl ⟨ho, fun d nd da => ?_⟩⟩
      refine ⟨u, rfl, .ref o, rfl, o, C, rfl, O.oex, no2, .inr ⟨d, [(a, v)], upd_same, by rw [upd_ne da]; exact upd_same, (by show 1 ≤ 900; decide), ?_⟩⟩
      refine q d _ nd da ?_
      funext c
      by_cases hc : c = d
      · rw [hc, upd_same, upd_ne da, upd_same] <;> rfl
      · rw [upd_ne hc]
        by_cases ho2 : c = o
        · rw [ho2, upd_same, upd_same]
        · rw [upd_ne ho2, upd_ne ho2, upd_ne hc, upd_ne hc]
end
end U
end
section
set_option Elab.async false
set_option linter.all false
set_option maxRecDepth 100000
set_option maxHeartbeats 4000000
namespace U
open PySem PySem.Spec PyProof.Rows L2 LamX
/-- the def x, called with keywords -/
structure HasK (P : Program) (w : World) (K : PySem.W.Frag) (mg : Str → Option Value) (base : Heap) (x : Str) (k : Nat) (ps : List Str) (n : Nat) (ks : List Str) (sp : Sp) : Prop where
  g : mg x = some (.ref (He.ga K x))
  kp : PySem.W.keepIn K (.ref (He.ga K x)) = true
  fn : ∃ fd, FnOk P w K mg base (L2N.CX P w) k (He.ga K x) fd ps sp ∧ KBn K fd ps n ks (fun us ws => us ++ ws) (fun vs zs => vs ++ zs)
section
variable {X : Cx} {k n m : Nat} {x : Str} {ps ks : List Str} {sp : Sp} {E : XK} {e : Expr} {es : List Expr} {kws : List Keyword} {t tk : TA} {p pos : Pos}
theorem pe_callKU (h : HasK X.prog X.w X.K X.mg X.base x k ps m ks sp) (hr : Room n X.A) (hk : k ≤ n) (hg : Gl X x) (hx : Passes (L2N.CX X.prog X.w) X E) (ha : PA X (e :: es) t) (hkw : PK X kws tk)
    (hall : (backToKw pos (keywordEach kws X.env)).all (·.1.isSome) = true := by rfl) (hks : (backToKw pos (keywordEach kws X.env)).filterMap (·.1) = ks := by rfl)
    (hdb : (x == ("__debug__" : Str)) = false := by decide) (he : starEach (e :: es) X.env = (false, eval e X.env) :: starEach es X.env := by rfl)
    (hpl : ((backTo pos (starEach (e :: es) X.env)).any (·.1) || (backToKw pos (keywordEach kws X.env)).any (·.1.isNone)) = false := by rfl) :
    PE X (.Call (.Name x p) (e :: es) kws pos) (tCallN m ks.length sp (fun vs zs => vs ++ zs) E t tk) := by
  obtain ⟨g, kp, fd, F, B⟩ := h
  exact pe_callN F (hr.mono hk) hg g kp B hx ha hkw hall hks hdb he hpl
end
section
variable {P : Program} {w : World} {K : PySem.W.Frag} {mg : Str → Option Value} {base : Heap} {x qual : Str} {params : Arguments} {body : List Stmt} {scope : Scope} {f : Addr} {fd : FuncData} {ps : List Str}
theorem kbn_of {n : Nat} {ks : List Str} (F : FunD K x qual params body scope [] [] f fd)
    (h : ∀ (kV doc pm : Value) (an : Option Addr) (cdv ct : Value) (us ws : List Value), us.length = n → ws.length = ks.length → bindArgs (PySem.W.fnOf x qual params body scope .none kV doc pm an cdv ct) ⟨us, ks.zip ws⟩ = pure (ps.zip (us ++ ws))) :
    KBn K fd ps n ks (fun us ws => us ++ ws) (fun vs zs => vs ++ zs) := by
  obtain ⟨oc, od, dV, kV, doc, pm, an, cdv, ct, osl, rfl, lk, hcd, hD, hK⟩ := F.ex
  rcases hD with ⟨_, rfl⟩ | ⟨e, _⟩
  · exact ⟨fun s us ws _ h1 h2 => .of_eq (h kV doc pm an cdv ct us ws h1 h2), fun r1 r2 => r1.append r2⟩
  · exact absurd rfl e
end
end U
end
section
set_option Elab.async false
set_option linter.all false
set_option maxRecDepth 100000
/-! calls with keywords alone -/
namespace U
open PySem PySem.Spec PyProof.Rows L2
structure HasK0 (P : Program) (w : World) (K : PySem.W.Frag) (mg : Str → Option Value) (base : Heap) (x : Str) (k : Nat) (ps ks : List Str) (gW : List Value → List Value) (gV : List V → List V) (sp : Sp) : Prop where
  g : mg x = some (.ref (He.ga K x))
  kp : PySem.W.keepIn K (.ref (He.ga K x)) = true
  fn : ∃ fd, FnOk P w K mg base (L2N.CX P w) k (He.ga K x) fd ps sp ∧ KBn K fd ps 0 ks (fun _ ws => gW ws) (fun _ zs => gV zs)
def tCallK0 (m : Nat) (sp : Sp) (gV : List V → List V) (E : XK) (tk : TA) : TE := fun σ H Q => tk σ H fun zs H2 => zs.length = m ∧ sp (gV zs) H2 Q E
section
variable {X : Cx} {k n : Nat} {x : Str} {ps ks : List Str} {sp : Sp} {E : XK} {kws : List Keyword} {tk : TA} {p pos : Pos} {gW : List Value → List Value} {gV : List V → List V}
theorem pe_callKU0 (h : HasK0 X.prog X.w X.K X.mg X.base x k ps ks gW gV sp) (hr : Room n X.A) (hkn : k ≤ n) (hg : Gl X x) (hx : Passes (L2N.CX X.prog X.w) X E) (hkw : PK X kws tk)
    (hall : (backToKw pos (keywordEach kws X.env)).all (·.1.isSome) = true := by rfl) (hks : (backToKw pos (keywordEach kws X.env)).filterMap (·.1) = ks := by rfl)
    (hdb : (x == ("__debug__" : Str)) = false := by decide)
    (hpl : ((backTo pos (starEach [] X.env)).any (·.1) || (backToKw pos (keywordEach kws X.env)).any (·.1.isNone)) = false := by rfl) :
    PE X (.Call (.Name x p) [] kws pos) (tCallK0 ks.length sp gV E tk) := by
  obtain ⟨g, kp, fd, F, B⟩ := h
  refine ⟨fun pins s σ H Q I h => ?_⟩
  refine wpAny_Call_Name_kw (ld_glob I hg g ?_ hdb)
  refine PySem.W.callWith_KW0 (h₀ := X.base) I.ok.mod.kin kp hall ?_ hpl
  refine thn (hkw.run pos pins s σ H _ I h) fun ws s2 ⟨zs, H2, I2, rz, l2, q2⟩ => ⟨I2.kIn, ?_⟩
  rw [hks]
  exact run_fnN (F.mono hkn) hr B hx I2 .nil rz rfl l2 q2
end
section
variable {K : PySem.W.Frag} {x qual : Str} {params : Arguments} {body : List Stmt} {scope : Scope} {f : Addr} {fd : FuncData} {ps : List Str}
theorem kbn0_of {ks : List Str} {gW : List Value → List Value} {gV : List V → List V} (F : FunD K x qual params body scope [] [] f fd)
    (h : ∀ (kV doc pm : Value) (an : Option Addr) (cdv ct : Value) (ws : List Value), ws.length = ks.length → bindArgs (PySem.W.fnOf x qual params body scope .none kV doc pm an cdv ct) ⟨[], ks.zip ws⟩ = pure (ps.zip (gW ws)))
    (hr : ∀ {zs : List V} {ws : List Value}, Vals zs ws → Vals (gV zs) (gW ws)) :
    KBn K fd ps 0 ks (fun _ ws => gW ws) (fun _ zs => gV zs) := by
  obtain ⟨oc, od, dV, kV, doc, pm, an, cdv, ct, osl, rfl, lk, hcd, hD, hK⟩ := F.ex
  rcases hD with ⟨_, rfl⟩ | ⟨e, _⟩
  · refine ⟨fun s us ws _ h1 h2 => ?_, fun r1 r2 => hr r2⟩
    match us, h1 with
    | [], _ => exact .of_eq (h kV doc pm an cdv ct ws h2)
  · exact absurd rfl e
end
end U
end
section
set_option Elab.async false
set_option linter.all false
set_option maxRecDepth 100000
set_option maxHeartbeats 4000000
/-! loops and comprehensions by what the iterator yields -/
namespace U
open PySem PySem.Spec PyProof.Rows L2 LamX Evl
section
variable {K : PySem.W.Frag} {T : List (Addr × Str)} {J : It} {H H1 : Hp} {n : Nat} {yl : Nat → V → Hp → Prop}
/-- wherever what stood at H1 stands, J yields n things, the i-th one as yl says -/
def Yl (T : List (Addr × Str)) (J : It) (H1 : Hp) (n : Nat) (yl : Nat → V → Hp → Prop) : Prop :=
  ∀ H', Gr T H1 H' → (∀ i, i < n → J.go i H') ∧ (∀ i, n ≤ i → J.stop i H') ∧ ∀ i x H'', i < n → J.yld i H' x H'' → Gr T H' H'' ∧ yl i x H''
theorem yl_list {a : Addr} {xs : List V} (h : SqL K H1 a xs) : Yl T (Itl K a) H1 xs.length fun i x _ => xs[i]? = some x := fun H' g => by
  have h' := g.sqL h
  refine ⟨fun i hi => ⟨xs, xs[i], h', List.getElem?_eq_getElem hi⟩, fun i hi => ⟨xs, h', hi⟩, fun i x H'' hi y => ?_⟩
  obtain ⟨e, f⟩ := y
  rw [e]
  exact ⟨Gr.refl _ _, f xs h'⟩
theorem yl_tup {a : Addr} {xs : List V} (h : SqT K H1 a xs) : Yl T (Itt K a) H1 xs.length fun i x _ => xs[i]? = some x := fun H' g => by
  have h' := g.sqT h
  refine ⟨fun i hi => ⟨xs, xs[i], h', List.getElem?_eq_getElem hi⟩, fun i hi => ⟨xs, h', hi⟩, fun i x H'' hi y => ?_⟩
  obtain ⟨e, f⟩ := y
  rw [e]
  exact ⟨Gr.refl _ _, f xs h'⟩
theorem yl_rng {lo : Int} {n : Nat} : Yl T (Itr lo n) H1 n fun i x _ => x = .int (lo + i) := fun H' g => by
  refine ⟨fun i hi => hi, fun i hi => hi, fun i x H'' hi y => ?_⟩
  obtain ⟨e, f⟩ := y
  rw [e]
  exact ⟨Gr.refl _ _, f⟩
theorem yl_enum {a : Addr} {xs : List V} (h : SqL K H1 a xs) : Yl T (Ite K a) H1 xs.length fun i x H' => ∃ p y, x = .ref p ∧ H' p = some (.tup [.int (i : Nat), y]) ∧ xs[i]? = some y := fun H' g => by
  have h' := g.sqL h
  refine ⟨fun i hi => ⟨xs, xs[i], h', List.getElem?_eq_getElem hi⟩, fun i hi => ⟨xs, h', hi⟩, fun i x H'' hi y => ?_⟩
  obtain ⟨p, z, e1, e2, e3, f⟩ := y
  rw [e3]
  exact ⟨Gr.new e2, p, z, e1, upd_same, f xs h'⟩
theorem yl_imp {yl' : Nat → V → Hp → Prop} (Y : Yl T J H1 n yl) (i : ∀ k x H, k < n → yl k x H → yl' k x H) : Yl T J H1 n yl' := fun H' g => by
  obtain ⟨a, b, c⟩ := Y H' g
  exact ⟨a, b, fun k x H'' hk y => ⟨(c k x H'' hk y).1, i k x H'' hk (c k x H'' hk y).2⟩⟩
theorem set_of {p : Addr} {xs ys : List V} (g : Gr T H H1) (h0 : H p = none) (h1 : H1 p = some (.lst xs)) : Gr T H (upd H1 p (.lst ys)) := g.set h0 h1
/-- what a comprehension asks of its iterator -/
def Lc (J : It) (g : TG) (tt : TT) (te : TE) (vs : List Nat) (σ : L2.St) (Q : VK) (H1 : Hp) : Prop := ∀ D, H1 D = none → ∃ W : Nat → Nat → Hp → Prop, (∃ m, W 0 m (upd H1 D (.lst []))) ∧ ∀ i m H, W i m H →
      (J.stop i H ∧ Q (.ref D) H) ∨ (J.go i H ∧ ∃ Nx : Hp → Prop, (∀ H', Nx H' → ∃ m', m' < m ∧ W (i + 1) m' H') ∧ ∀ x H', J.yld i H x H' → g x (wipe σ vs) H' fun σ2 H2 => wipe σ2 vs = wipe σ vs ∧ tt σ2 H2 fun b H3 =>
        if b = true then te σ2 H3 fun y H4 => ∃ acc, H4 D = some (.lst acc) ∧ acc.length < sizeLine ∧ Nx (upd H4 D (.lst (acc ++ [y]))) else Nx H3)
/-- what a turn is to show: the test's answer b, the item y -/
def Turn1 (T : List (Addr × Str)) (tt : TT) (te : TE) (σ2 : L2.St) (H2 : Hp) (b : Bool) (y : V) : Prop :=
  ∀ (Yes : VK) (No : Hp → Prop), (b = true → ∀ H4, Gr T H2 H4 → Yes y H4) → (b = false → ∀ H3, Gr T H2 H3 → No H3) → tt σ2 H2 fun c H3 => if c = true then te σ2 H3 Yes else No H3
theorem lcG {g : TG} {tt : TT} {te : TE} {vs : List Nat} {σ : L2.St} {Q : VK} (Y : Yl T J H1 n yl) (hz : n ≤ 100000) (f : Nat → Bool) (v : Nat → V)
    (step : ∀ i x H2 (R : L2.St → Hp → Prop), i < n → Gr T H1 H2 → yl i x H2 → (∀ σ2, wipe σ2 vs = wipe σ vs → Turn1 T tt te σ2 H2 (f i) (v i) → R σ2 H2) → g x (wipe σ vs) H2 R)
    (fin : ∀ D H3, Gr T H1 H3 → H1 D = none → H3 D = some (.lst (given n f v)) → Q (.ref D) H3) : Lc J g tt te vs σ Q H1 := by
  intro D hD
  refine ⟨fun i m H => m = n - i ∧ i ≤ n ∧ Gr T H1 H ∧ H D = some (.lst (given i f v)), ⟨n, by simp, Nat.zero_le _, Gr.new hD, upd_same⟩, fun i m H w => ?_⟩
  obtain ⟨em, hi, gr, hd⟩ := w
  obtain ⟨y1, y2, y3⟩ := Y H gr
  rcases Nat.lt_or_ge i n with hlt | hge
  · refine .inr ⟨y1 i hlt, fun H' => Gr T H1 H' ∧ H' D = some (.lst (given (i + 1) f v)), fun H' hN => ⟨n - (i + 1), by omega, rfl, by omega, hN.1, hN.2⟩, fun x H' hy => ?_⟩
    obtain ⟨gy, hyl⟩ := y3 i x H' hlt hy
    refine step i x H' _ hlt (gr.trans gy) hyl fun σ2 q1 q2 => ⟨q1, ?_⟩
    have hd2 := gy.lst hd
    refine q2 _ _ (fun hf H4 g4 => ?_) (fun hf H3 g3 => ?_)
    · have hd4 := g4.lst hd2
      have hl := given_len i f v
      refine ⟨given i f v, hd4, sz_lt (by omega), (((gr.trans gy).trans g4).set hD hd4), ?_⟩
      rw [upd_same, given_yes hf]
    · refine ⟨(gr.trans gy).trans g3, ?_⟩
      rw [g3.lst hd2, given_no hf]
  · have e : i = n := by omega
    subst e
    exact .inl ⟨y2 i (Nat.le_refl _), fin D H gr hD hd⟩
theorem given_list {xs : List V} {f : Nat → Bool} {v : Nat → V} {p : V → Bool} {w : V → V} (hf : ∀ i x, xs[i]? = some x → f i = p x) (hv : ∀ i x, xs[i]? = some x → v i = w x) : given xs.length f v = (xs.filter p).map w := by
  have key : ∀ n, n ≤ xs.length → given n f v = ((xs.take n).filter p).map w := by
    intro n
    induction n with
    | zero => intro _; rfl
    | succ n ih =>
      intro hn
      have hx : xs[n]? = some xs[n] := List.getElem?_eq_getElem hn
      rw [List.take_add_one, hx]
      show _ = ((xs.take n ++ [xs[n]]).filter p).map w
      rw [List.filter_append, List.map_append, ← ih (by omega)]
      cases hb : f n with
      | true => rw [given_yes hb, List.filter_cons, if_pos (by rw [← hf n _ hx]; exact hb), hv n _ hx] <;> rfl
      | false => rw [given_no hb, List.filter_cons, if_neg (by rw [← hf n _ hx, hb]; decide)]; simp
  have := key xs.length (Nat.le_refl _)
  rw [List.take_length] at this
  exact this
end
/-! ### at a comprehension: over a list or tuple, a range, an enumeration, pairs -/
section
variable {K : PySem.W.Frag} {T : List (Addr × Str)} {σ : L2.St} {H H1 : Hp} {Q : VK} {tl : TE} {ta : TA} {g : TG} {j j2 : Nat} {tt : TT} {te : TE} {vs : List Nat}
def LcS (K : PySem.W.Frag) (g : TG) (tt : TT) (te : TE) (vs : List Nat) (σ : L2.St) (Q : VK) (x : V) (H1 : Hp) : Prop := ∃ a, x = .ref a ∧ ((∃ xs, SqL K H1 a xs ∧ Lc (Itl K a) g tt te vs σ Q H1) ∨ (∃ xs, SqT K H1 a xs ∧ Lc (Itt K a) g tt te vs σ Q H1))
theorem w_lcS (h : tl σ H fun x H1 => LcS K g tt te vs σ Q x H1) : tLc (iSeq K tl) g tt te vs σ H Q := h
def LcR1 (g : TG) (tt : TT) (te : TE) (vs : List Nat) (σ : L2.St) (Q : VK) (xs : List V) (H1 : Hp) : Prop := ∃ j : Int, xs = [.int j] ∧ -(2 ^ 62) ≤ j ∧ j < 2 ^ 62 ∧ Lc (Itr 0 j.toNat) g tt te vs σ Q H1
theorem w_lcR1 (h : ta σ H fun x H1 => LcR1 g tt te vs σ Q x H1) : tLc (iRng1 ta) g tt te vs σ H Q := h
def LcR2 (g : TG) (tt : TT) (te : TE) (vs : List Nat) (σ : L2.St) (Q : VK) (xs : List V) (H1 : Hp) : Prop := ∃ i j : Int, xs = [.int i, .int j] ∧ (-(2 ^ 62) ≤ i ∧ i < 2 ^ 62 ∧ -(2 ^ 62) ≤ j ∧ j < 2 ^ 62) ∧ Lc (Itr i (j - i).toNat) g tt te vs σ Q H1
theorem w_lcR2 (h : ta σ H fun x H1 => LcR2 g tt te vs σ Q x H1) : tLc (iRng2 ta) g tt te vs σ H Q := h
def LcE (K : PySem.W.Frag) (g : TG) (tt : TT) (te : TE) (vs : List Nat) (σ : L2.St) (Q : VK) (xs : List V) (H1 : Hp) : Prop := ∃ a ys, xs = [.ref a] ∧ SqL K H1 a ys ∧ Lc (Ite K a) g tt te vs σ Q H1
theorem w_lcE (h : ta σ H fun x H1 => LcE K g tt te vs σ Q x H1) : tLc (iEnum K ta) g tt te vs σ H Q := h
theorem lc_S {a : Addr} {xs : List V} (hs : Sq K H1 a xs) (f : V → Bool) (v : V → V) (hz : xs.length ≤ 100000) (hw : ∀ x, wipe ((wipe σ vs).set j (some x)) vs = wipe σ vs)
    (hst : ∀ x ∈ xs, ∀ H2, Gr T H1 H2 → Turn1 T tt te ((wipe σ vs).set j (some x)) H2 (f x) (v x))
    (fin : ∀ D H3, Gr T H1 H3 → H1 D = none → H3 D = some (.lst ((xs.filter f).map v)) → Q (.ref D) H3) : LcS K (gName j) tt te vs σ Q (.ref a) H1 := by
  have go : ∀ {J : It}, Yl T J H1 xs.length (fun i x _ => xs[i]? = some x) → Lc J (gName j) tt te vs σ Q H1 := fun {J} Y => lcG (J := J) Y hz (fun i => (xs[i]?).elim false f) (fun i => (xs[i]?).elim .non v)
    (fun i x H2 R hi gr e k => k _ (hw x) (by
      have q := hst x (List.mem_of_getElem? e) H2 gr
      rw [e]
      exact q)) (fun D H3 g3 hD h3 => fin D H3 g3 hD (by rw [h3, given_list (p := f) (w := v) (fun i x e => by rw [e] <;> rfl) (fun i x e => by rw [e] <;> rfl)]))
  rcases hs with hs | hs
  · exact ⟨a, rfl, .inl ⟨xs, hs, go (yl_list hs)⟩⟩
  · exact ⟨a, rfl, .inr ⟨xs, hs, go (yl_tup hs)⟩⟩
/-- over ints -/
theorem lc_I {a : Addr} {ns : List Int} (hs : Sq K H1 a (ns.map V.int)) (f : Int → Bool) (v : Int → V) (hz : ns.length ≤ 100000) (hw : ∀ x, wipe ((wipe σ vs).set j (some x)) vs = wipe σ vs)
    (hst : ∀ n ∈ ns, ∀ H2, Gr T H1 H2 → Turn1 T tt te ((wipe σ vs).set j (some (.int n))) H2 (f n) (v n))
    (fin : ∀ D H3, Gr T H1 H3 → H1 D = none → H3 D = some (.lst ((ns.filter f).map v)) → Q (.ref D) H3) : LcS K (gName j) tt te vs σ Q (.ref a) H1 := by
  refine lc_S hs (fun x => match x with | .int n => f n | _ => false) (fun x => match x with | .int n => v n | _ => .non) (by rw [List.length_map]; exact hz) hw (fun x hx H2 gr => ?_) (fun D H3 g hD h3 => fin D H3 g hD ?_)
  · obtain ⟨n, hn, rfl⟩ := List.mem_map.mp hx
    exact hst n hn H2 gr
  · rw [h3, List.filter_map, List.map_map] <;> rfl
/-- the ints of a range -/
def rgI (lo hi : Int) : List Int := (List.range (hi - lo).toNat).map fun k : Nat => lo + k
theorem mem_rgI {lo hi k : Int} : k ∈ rgI lo hi ↔ lo ≤ k ∧ k < hi := by
  unfold rgI
  rw [List.mem_map]
  refine ⟨fun ⟨n, h1, h2⟩ => ?_, fun ⟨h1, h2⟩ => ⟨(k - lo).toNat, List.mem_range.mpr (by omega), by omega⟩⟩
  have := List.mem_range.mp h1
  omega
theorem lcR {lo : Int} {n : Nat} (hz : n ≤ 100000) (hw : ∀ x, wipe ((wipe σ vs).set j (some x)) vs = wipe σ vs) (f : Int → Bool) (v : Int → V)
    (hst : ∀ i : Nat, i < n → ∀ H2, Gr T H1 H2 → Turn1 T tt te ((wipe σ vs).set j (some (.int (lo + i)))) H2 (f (lo + i)) (v (lo + i)))
    (fin : ∀ D H3, Gr T H1 H3 → H1 D = none → H3 D = some (.lst ((((List.range n).map fun k : Nat => lo + (k : Int)).filter f).map v)) → Q (.ref D) H3) : Lc (Itr lo n) (gName j) tt te vs σ Q H1 :=
  lcG (T := T) yl_rng hz (fun i => f (lo + i)) (fun i => v (lo + i))
    (fun i x H2 R hi gr e k => by rw [e]; exact k _ (hw _) (hst i hi H2 gr)) (fun D H3 g3 hD h3 => fin D H3 g3 hD (by
      rw [h3]
      unfold given
      rw [List.filter_map, List.map_map] <;> rfl))
theorem lc_R1 {n : Int} (f : Int → Bool) (v : Int → V) (hz : n ≤ 100000) (hl : -(2 ^ 62) ≤ n) (hw : ∀ x, wipe ((wipe σ vs).set j (some x)) vs = wipe σ vs)
    (hst : ∀ k : Int, 0 ≤ k → k < n → ∀ H2, Gr T H1 H2 → Turn1 T tt te ((wipe σ vs).set j (some (.int k))) H2 (f k) (v k))
    (fin : ∀ D H3, Gr T H1 H3 → H1 D = none → H3 D = some (.lst (((rgI 0 n).filter f).map v)) → Q (.ref D) H3) : LcR1 (gName j) tt te vs σ Q [.int n] H1 := by
  refine ⟨n, rfl, hl, by omega, lcR (by omega) hw f v (fun i hi H2 gr => ?_) (fun D H3 g3 hD h3 => fin D H3 g3 hD (by rw [h3]; unfold rgI; rw [Int.sub_zero]))⟩
  exact hst _ (by omega) (by omega) H2 gr
theorem lc_R2 {lo hi : Int} (f : Int → Bool) (v : Int → V) (hz : hi - lo ≤ 100000) (b1 : -(2 ^ 61) ≤ lo) (b2 : lo ≤ 2 ^ 61) (b3 : -(2 ^ 61) ≤ hi) (hw : ∀ x, wipe ((wipe σ vs).set j (some x)) vs = wipe σ vs)
    (hst : ∀ k : Int, lo ≤ k → k < hi → ∀ H2, Gr T H1 H2 → Turn1 T tt te ((wipe σ vs).set j (some (.int k))) H2 (f k) (v k))
    (fin : ∀ D H3, Gr T H1 H3 → H1 D = none → H3 D = some (.lst (((rgI lo hi).filter f).map v)) → Q (.ref D) H3) : LcR2 (gName j) tt te vs σ Q [.int lo, .int hi] H1 := by
  refine ⟨lo, hi, rfl, ⟨by omega, by omega, by omega, by omega⟩, lcR (by omega) hw f v (fun i hi H2 gr => ?_) (fun D H3 g3 hD h3 => fin D H3 g3 hD (by rw [h3] <;> rfl))⟩
  exact hst _ (by omega) (by omega) H2 gr
theorem given_opt {α : Type} {ns : List α} {f : α → Bool} {v : α → V} : given ns.length (fun i => (ns[i]?).elim false f) (fun i => (ns[i]?).elim .non v) = (ns.filter f).map v := by
  have key : ∀ n, n ≤ ns.length → given n (fun i => (ns[i]?).elim false f) (fun i => (ns[i]?).elim .non v) = ((ns.take n).filter f).map v := by
    intro n
    induction n with
    | zero => intro _; rfl
    | succ n ih =>
      intro hn
      have hx : ns[n]? = some ns[n] := List.getElem?_eq_getElem hn
      have e : ns.take (n + 1) = ns.take n ++ [ns[n]] := by rw [List.take_add_one, hx] <;> rfl
      rw [e, List.filter_append, List.map_append, ← ih (by omega)]
      cases hb : f ns[n] with
      | true =>
        rw [given_yes (by rw [hx]; exact hb), List.filter_cons, if_pos hb, hx] <;> rfl
      | false =>
        rw [given_no (by rw [hx]; exact hb), List.filter_cons, if_neg (by rw [hb]; decide)]
        simp
  have := key ns.length (Nat.le_refl _)
  rw [this, List.take_length]
/-- enumerate over ints: i, x -/
theorem lc_E {a : Addr} {ns : List Int} (hs : SqL K H1 a (ns.map V.int)) (f : Nat → Int → Bool) (v : Nat → Int → V) (hz : ns.length ≤ 100000) (hw : ∀ x y, wipe (((wipe σ vs).set j (some x)).set j2 (some y)) vs = wipe σ vs)
    (hst : ∀ (i : Nat) (n : Int), ns[i]? = some n → ∀ H2, Gr T H1 H2 → Turn1 T tt te (((wipe σ vs).set j (some (.int (i : Nat)))).set j2 (some (.int n))) H2 (f i n) (v i n))
    (fin : ∀ D H3, Gr T H1 H3 → H1 D = none → H3 D = some (.lst ((ns.zipIdx.filter fun p => f p.2 p.1).map fun p => v p.2 p.1)) → Q (.ref D) H3) :
    LcE K (gTup K 2 (gCons (gName j) (gCons (gName j2) gNil))) tt te vs σ Q [.ref a] H1 := by
  refine ⟨a, _, rfl, hs, lcG (T := T) (yl_enum hs) (by rw [List.length_map]; exact hz) (fun i => (ns.zipIdx[i]?).elim false fun p => f p.2 p.1) (fun i => (ns.zipIdx[i]?).elim .non fun p => v p.2 p.1) (fun i x H2 R hi gr e k => ?_) (fun D H3 g3 hD h3 => fin D H3 g3 hD ?_)⟩
  · obtain ⟨p, y, rfl, hp, hy⟩ := e
    rw [List.getElem?_map] at hy
    cases hn : ns[i]? with
    | none => rw [hn] at hy; cases hy
    | some n =>
      rw [hn] at hy
      cases hy
      refine ⟨p, _, rfl, .inl (.inl hp), rfl, _, _, rfl, _, _, rfl, rfl, k _ (hw _ _) ?_⟩
      have hx2 : ns.zipIdx[i]? = some (n, i) := by rw [List.getElem?_zipIdx, hn]; simp
      rw [hx2]
      exact hst i n hn H2 gr
  · rw [h3, List.length_map]
    have e : ns.length = ns.zipIdx.length := by simp
    rw [e, given_opt]
/-- pairs of ints -/
def IsPr (K : PySem.W.Frag) (H : Hp) (x : V) (q : Int × Int) : Prop := ∃ p, x = .ref p ∧ SqT K H p [.int q.1, .int q.2]
def PrAll (K : PySem.W.Frag) (H : Hp) : List V → List (Int × Int) → Prop := Paired (IsPr K H)
theorem Gr.pr {H H' : Hp} {x : V} {q : Int × Int} (g : Gr T H H') (h : IsPr K H x q) : IsPr K H' x q := by
  obtain ⟨p, e, hs⟩ := h
  exact ⟨p, e, g.sqT hs⟩
theorem Gr.prs {H H' : Hp} (g : Gr T H H') : ∀ {xs : List V} {qs : List (Int × Int)}, PrAll K H xs qs → PrAll K H' xs qs
  | _, _, .nil => .nil
  | _, _, .cons a b => .cons (g.pr a) (Gr.prs g b)
theorem PrAll.get {H : Hp} : ∀ {xs : List V} {qs : List (Int × Int)} {i : Nat} {x : V}, PrAll K H xs qs → xs[i]? = some x → ∃ q, qs[i]? = some q ∧ IsPr K H x q
  | _, _, _, _, .nil, e => by simp at e
  | _, _, 0, _, .cons r _, e => by
    simp at e
    subst e
    exact ⟨_, rfl, r⟩
  | _, _, i + 1, x, .cons _ t, e => by
    obtain ⟨q, h1, h2⟩ := PrAll.get (i := i) (x := x) t (by simpa using e)
    exact ⟨q, by simpa using h1, h2⟩
theorem PrAll.len {H : Hp} {xs : List V} {qs : List (Int × Int)} (h : PrAll K H xs qs) : xs.length = qs.length := Paired.length h
theorem lc_P {a : Addr} {xs : List V} {qs : List (Int × Int)} (hs : SqL K H1 a xs) (hp : PrAll K H1 xs qs) (f : Int × Int → Bool) (v : Int × Int → V) (hz : qs.length ≤ 100000) (hw : ∀ x y, wipe (((wipe σ vs).set j (some x)).set j2 (some y)) vs = wipe σ vs)
    (hst : ∀ q ∈ qs, ∀ H2, Gr T H1 H2 → Turn1 T tt te (((wipe σ vs).set j (some (.int q.1))).set j2 (some (.int q.2))) H2 (f q) (v q))
    (fin : ∀ D H3, Gr T H1 H3 → H1 D = none → H3 D = some (.lst ((qs.filter f).map v)) → Q (.ref D) H3) :
    LcS K (gTup K 2 (gCons (gName j) (gCons (gName j2) gNil))) tt te vs σ Q (.ref a) H1 := by
  refine ⟨a, rfl, .inl ⟨xs, hs, lcG (T := T) (yl_list hs) (by rw [hp.len]; exact hz) (fun i => (qs[i]?).elim false f) (fun i => (qs[i]?).elim .non v) (fun i x H2 R hi gr e k => ?_) (fun D H3 g3 hD h3 => fin D H3 g3 hD (by rw [h3, hp.len, given_opt]))⟩⟩
  obtain ⟨q, hq, hp2⟩ := hp.get e
  obtain ⟨p, rfl, hp3⟩ := gr.pr hp2
  refine ⟨p, _, rfl, hp3, rfl, _, _, rfl, _, _, rfl, rfl, k _ (hw _ _) ?_⟩
  rw [hq]
  exact hst q (List.mem_of_getElem? hq) H2 gr
end
/-! ### for statements -/
section
variable {K : PySem.W.Frag} {T : List (Addr × Str)} {σ : L2.St} {H H1 : Hp} {D : Ends} {tl : TE} {ta : TA} {g : TG} {tb : TS}
/-- what a for statement asks of its iterator -/
def Fr (J : It) (g : TG) (tb : TS) (D : Ends) (σ : L2.St) (H1 : Hp) : Prop := ∃ W : Nat → Nat → L2.St → Hp → Prop, (∃ m, W 0 m σ H1) ∧ ∀ i m σ H, W i m σ H →
      (J.stop i H ∧ D.nx σ H) ∨ (J.go i H ∧ ∃ N : L2.St → Hp → Prop, (∀ σ' H', N σ' H' → ∃ m', m' < m ∧ W (i + 1) m' σ' H') ∧ ∀ x H', J.yld i H x H' → g x σ H' fun σ2 H2 => tb { D with nx := N, ct := N, bk := D.nx } σ2 H2)
def FrS (K : PySem.W.Frag) (g : TG) (tb : TS) (D : Ends) (σ : L2.St) (x : V) (H1 : Hp) : Prop := ∃ a, x = .ref a ∧ ((∃ xs, SqL K H1 a xs ∧ Fr (Itl K a) g tb D σ H1) ∨ (∃ xs, SqT K H1 a xs ∧ Fr (Itt K a) g tb D σ H1))
theorem w_frS (h : tl σ H fun x H1 => FrS K g tb D σ x H1) : tFor (iSeq K tl) g tb D σ H := h
def FrR1 (g : TG) (tb : TS) (D : Ends) (σ : L2.St) (xs : List V) (H1 : Hp) : Prop := ∃ j : Int, xs = [.int j] ∧ -(2 ^ 62) ≤ j ∧ j < 2 ^ 62 ∧ Fr (Itr 0 j.toNat) g tb D σ H1
theorem w_frR1 (h : ta σ H fun x H1 => FrR1 g tb D σ x H1) : tFor (iRng1 ta) g tb D σ H := h
def FrR2 (g : TG) (tb : TS) (D : Ends) (σ : L2.St) (xs : List V) (H1 : Hp) : Prop := ∃ i j : Int, xs = [.int i, .int j] ∧ (-(2 ^ 62) ≤ i ∧ i < 2 ^ 62 ∧ -(2 ^ 62) ≤ j ∧ j < 2 ^ 62) ∧ Fr (Itr i (j - i).toNat) g tb D σ H1
theorem w_frR2 (h : ta σ H fun x H1 => FrR2 g tb D σ x H1) : tFor (iRng2 ta) g tb D σ H := h
def FrE (K : PySem.W.Frag) (g : TG) (tb : TS) (D : Ends) (σ : L2.St) (xs : List V) (H1 : Hp) : Prop := ∃ a ys, xs = [.ref a] ∧ SqL K H1 a ys ∧ Fr (Ite K a) g tb D σ H1
theorem w_frE (h : ta σ H fun x H1 => FrE K g tb D σ x H1) : tFor (iEnum K ta) g tb D σ H := h
def FrT (g : TG) (tb : TS) (D : Ends) (σ : L2.St) (x : V) (H1 : Hp) : Prop := ∃ z, x = .str z ∧ Fr (Its z) g tb D σ H1
theorem w_frT (h : tl σ H fun x H1 => FrT g tb D σ x H1) : tFor (iStr tl) g tb D σ H := h
theorem frG {J : It} {n : Nat} {yl : Nat → V → Hp → Prop} (Pv : Nat → L2.St → Hp → Prop) (h0 : Pv 0 σ H1) (hY : ∀ i σ' H', i ≤ n → Pv i σ' H' → (i < n → J.go i H' ∧ ∀ x H'', J.yld i H' x H'' → g x σ' H'' fun σ2 H2 => tb { D with nx := Pv (i + 1), ct := Pv (i + 1), bk := D.nx } σ2 H2) ∧ (i = n → J.stop i H' ∧ D.nx σ' H')) : Fr J g tb D σ H1 := by
  refine ⟨fun i m σ H => m = n - i ∧ i ≤ n ∧ Pv i σ H, ⟨n, by simp, Nat.zero_le _, h0⟩, fun i m σ H w => ?_⟩
  obtain ⟨em, hi, p⟩ := w
  obtain ⟨h1, h2⟩ := hY i σ H hi p
  rcases Nat.lt_or_ge i n with hlt | hge
  · exact .inr ⟨(h1 hlt).1, fun σ' H' => Pv (i + 1) σ' H', fun σ' H' q => ⟨n - (i + 1), by omega, rfl, by omega, q⟩, (h1 hlt).2⟩
  · have e : i = n := by omega
    obtain ⟨h3, h4⟩ := h2 e
    exact .inl ⟨h3, h4⟩
/-- over a list or a tuple whose place stands through all turns -/
theorem fr_S {a : Addr} {xs : List V} (hs : Sq K H1 a xs) (Pv : Nat → L2.St → Hp → Prop) (h0 : Pv 0 σ H1) (hk : ∀ i σ' H', Pv i σ' H' → Gr T H1 H')
    (hst : ∀ i x σ' H', xs[i]? = some x → Pv i σ' H' → g x σ' H' fun σ2 H2 => tb { D with nx := Pv (i + 1), ct := Pv (i + 1), bk := D.nx } σ2 H2) (hd : ∀ σ' H', Pv xs.length σ' H' → D.nx σ' H') : FrS K g tb D σ (.ref a) H1 := by
  have go : ∀ {J : It}, Yl T J H1 xs.length (fun i x _ => xs[i]? = some x) → (∀ i H x H', J.yld i H x H' → H' = H) → Fr J g tb D σ H1 := fun {J} Y hH => frG (n := xs.length) (yl := fun _ _ _ => True) Pv h0 fun i σ' H' hi p => by
    obtain ⟨y1, y2, y3⟩ := Y H' (hk i σ' H' p)
    refine ⟨fun hlt => ⟨y1 i hlt, fun x H'' y => ?_⟩, fun e => ⟨y2 i (by omega), hd σ' H' (by rw [← e]; exact p)⟩⟩
    have e := hH i H' x H'' y
    subst e
    exact hst i x σ' H'' (y3 i x H'' hlt y).2 p
  rcases hs with hs | hs
  · exact ⟨a, rfl, .inl ⟨xs, hs, go (yl_list hs) fun i H x H' y => y.1⟩⟩
  · exact ⟨a, rfl, .inr ⟨xs, hs, go (yl_tup hs) fun i H x H' y => y.1⟩⟩
theorem frR {lo : Int} {n : Nat} (Pv : Nat → L2.St → Hp → Prop) (h0 : Pv 0 σ H1) (hst : ∀ (i : Nat) σ' H', i < n → Pv i σ' H' → g (.int (lo + i)) σ' H' fun σ2 H2 => tb { D with nx := Pv (i + 1), ct := Pv (i + 1), bk := D.nx } σ2 H2) (hd : ∀ σ' H', Pv n σ' H' → D.nx σ' H') : Fr (Itr lo n) g tb D σ H1 :=
  frG (n := n) (yl := fun _ _ _ => True) Pv h0 fun i σ' H' hi p => ⟨fun hlt => ⟨hlt, fun x H'' y => by
    obtain ⟨e1, e2⟩ := y
    subst e1 e2
    exact hst i σ' _ hlt p⟩, fun e => ⟨by subst e; exact Nat.le_refl _, hd σ' H' (by subst e; exact p)⟩⟩
theorem fr_R1 {n : Int} (hz : n ≤ 2 ^ 61) (hl : -(2 ^ 62) ≤ n) (Pv : Nat → L2.St → Hp → Prop) (h0 : Pv 0 σ H1) (hst : ∀ (i : Nat) σ' H', (i : Int) < n → Pv i σ' H' → g (.int (i : Nat)) σ' H' fun σ2 H2 => tb { D with nx := Pv (i + 1), ct := Pv (i + 1), bk := D.nx } σ2 H2)
    (hd : ∀ σ' H', Pv n.toNat σ' H' → D.nx σ' H') : FrR1 g tb D σ [.int n] H1 :=
  ⟨n, rfl, hl, by omega, frR Pv h0 (fun i σ' H' hi p => by rw [Int.zero_add]; exact hst i σ' H' (by omega) p) hd⟩
theorem fr_R2 {lo hi : Int} (b1 : -(2 ^ 61) ≤ lo) (b2 : lo ≤ 2 ^ 61) (b3 : -(2 ^ 61) ≤ hi) (b4 : hi ≤ 2 ^ 61) (Pv : Nat → L2.St → Hp → Prop) (h0 : Pv 0 σ H1) (hst : ∀ (i : Nat) σ' H', lo + (i : Int) < hi → Pv i σ' H' → g (.int (lo + (i : Nat))) σ' H' fun σ2 H2 => tb { D with nx := Pv (i + 1), ct := Pv (i + 1), bk := D.nx } σ2 H2)
    (hd : ∀ σ' H', Pv (hi - lo).toNat σ' H' → D.nx σ' H') : FrR2 g tb D σ [.int lo, .int hi] H1 :=
  ⟨lo, hi, rfl, ⟨by omega, by omega, by omega, by omega⟩, frR Pv h0 (fun i σ' H' hi p => hst i σ' H' (by omega) p) hd⟩
/-- enumerate: i, x -/
theorem fr_E {a : Addr} {xs : List V} {j j2 : Nat} (hs : SqL K H1 a xs) (Pv : Nat → L2.St → Hp → Prop) (h0 : Pv 0 σ H1) (hk : ∀ i σ' H', Pv i σ' H' → Gr T H1 H')
    (hst : ∀ (i : Nat) x σ' H' H2, xs[i]? = some x → Pv i σ' H' → Gr T H' H2 → tb { D with nx := Pv (i + 1), ct := Pv (i + 1), bk := D.nx } ((σ'.set j (some (.int (i : Nat)))).set j2 (some x)) H2) (hd : ∀ σ' H', Pv xs.length σ' H' → D.nx σ' H') :
    FrE K (gTup K 2 (gCons (gName j) (gCons (gName j2) gNil))) tb D σ [.ref a] H1 := by
  refine ⟨a, xs, rfl, hs, frG (n := xs.length) (yl := fun _ _ _ => True) Pv h0 fun i σ' H' hi p => ?_⟩
  obtain ⟨y1, y2, y3⟩ := yl_enum (T := T) hs H' (hk i σ' H' p)
  refine ⟨fun hlt => ⟨y1 i hlt, fun x H'' y => ?_⟩, fun e => ⟨y2 i (by omega), hd σ' H' (by rw [← e]; exact p)⟩⟩
  obtain ⟨gr, q, z, rfl, h1, h2⟩ := y3 i x H'' hlt y
  exact ⟨q, _, rfl, .inl (.inl h1), rfl, _, _, rfl, _, _, rfl, rfl, hst i z σ' H' H'' h2 p gr⟩
end
end U
end
section
set_option Elab.async false
set_option linter.all false
set_option maxRecDepth 100000
set_option maxHeartbeats 4000000
/-! readings, step by step -/
namespace U
open PySem PySem.Spec PyProof.Rows L2 LamX Evl
/-- kept, whatever the tables -/
def GrA (H H' : Hp) : Prop := ∀ T, Gr T H H'
theorem GrA.gr {T : List (Addr × Str)} {H H' : Hp} (g : GrA H H') : Gr T H H' := g T
theorem GrA.new {H : Hp} {p : Addr} {o : HO} (h : H p = none) : GrA H (upd H p o) := fun _ => Gr.new h
theorem sqL_of {K : PySem.W.Frag} {H : Hp} {a : Addr} {xs : List V} (h : H a = some (.lst xs)) : SqL K H a xs := .inl (.inl h)
theorem sqT_of {K : PySem.W.Frag} {H : Hp} {a : Addr} {xs : List V} (h : H a = some (.tup xs)) : SqT K H a xs := .inl (.inl h)
theorem sqA_of {K : PySem.W.Frag} {H : Hp} {a : Addr} {xs : List V} (h : H a = some (.lst xs)) : Sq K H a xs := .inl (sqL_of h)
theorem sqB_of {K : PySem.W.Frag} {H : Hp} {a : Addr} {xs : List V} (h : H a = some (.tup xs)) : Sq K H a xs := .inr (sqT_of h)
section
variable {K : PySem.W.Frag} {D : Ends} {σ : L2.St} {H H' : Hp} {Q : VK} {QS : L2.St → Hp → Prop} {QH : Hp → Prop} {p q : Addr} {xs ys : List V} {ns ms : List Int} {i j k n : Int} {v x : V} {s r : Str} {tA : TA}
theorem w_len (h : Sq K H p xs) (q : Q (.int xs.length) H) : uLen K [.ref p] H Q := ⟨xs, h, q⟩
theorem w_lenI (h : Sq K H p (ns.map V.int)) (q : Q (.int ns.length) H) : uLen K [.ref p] H Q := ⟨_, h, by rw [List.length_map]; exact q⟩
theorem w_lenS (h : s.length ≤ sizeLine) (q : Q (.int s.length) H) : uLen K [.str s] H Q := ⟨h, q⟩
theorem w_sum (h : Sq K H p (ns.map V.int)) (q : Q (.int ns.sum) H) : uSum K [.ref p] H Q := ⟨p, ns, rfl, h, q⟩
theorem w_abs (q : Q (.int (i.natAbs : Int)) H) : uAbs [.int i] H Q := q
theorem w_max2 (q : Q (.int (max i j)) H) : uMax [.int i, .int j] H Q := q
theorem w_max3 (q : Q (.int (max (max i j) k)) H) : uMax [.int i, .int j, .int k] H Q := q
theorem w_min2 (q : Q (.int (min i j)) H) : uMin [.int i, .int j] H Q := q
theorem w_intI (q : Q (.int i) H) : uInt [.int i] H Q := q
theorem w_strI (h : i.natAbs.log2 < 1920) (q : Q (.str (toString i)) H) : uStr [.int i] H Q := ⟨h, q⟩
theorem w_list (h : Sq K H p xs) (q : ∀ l H', H l = none → GrA H H' → H' l = some (.lst xs) → Q (.ref l) H') : uList K [.ref p] H Q := ⟨xs, h, fun l hl => q l _ hl (.new hl) upd_same⟩
theorem w_tuple (h : Sq K H p xs) (q : ∀ l H', GrA H H' → SqT K H' l xs → Q (.ref l) H') : uTup K [.ref p] H Q := by
  rcases h with h | h
  · exact ⟨xs, .inl ⟨h, fun l hl => q l _ (.new hl) (sqT_of upd_same)⟩⟩
  · exact ⟨xs, .inr ⟨h, q p H (fun _ => Gr.refl _ _) h⟩⟩
theorem w_tupG (h : tA σ H fun xs H1 => xs.length ≤ sizeLine ∧ ∀ p H', H1 p = none → GrA H1 H' → H' p = some (.tup xs) → Q (.ref p) H') : tTup tA σ H Q → tTup tA σ H Q := id
theorem tup_k {xs : List V} (h : xs.length ≤ 100000) (q : ∀ p H', H p = none → GrA H H' → H' p = some (.tup xs) → Q (.ref p) H') : xs.length ≤ sizeLine ∧ ∀ p, H p = none → Q (.ref p) (upd H p (.tup xs)) := ⟨sz_of h, fun p hp => q p _ hp (.new hp) upd_same⟩
theorem lst_k {xs : List V} (h : xs.length ≤ 100000) (q : ∀ p H', H p = none → GrA H H' → H' p = some (.lst xs) → Q (.ref p) H') : xs.length ≤ sizeLine ∧ ∀ p, H p = none → Q (.ref p) (upd H p (.lst xs)) := ⟨sz_of h, fun p hp => q p _ hp (.new hp) upd_same⟩
theorem new_k {o : HO} (q : ∀ p H', H p = none → GrA H H' → H' p = some o → Q (.ref p) H') : ∀ p, H p = none → Q (.ref p) (upd H p o) := fun p hp => q p _ hp (.new hp) upd_same
/-! items -/
theorem ixN_of {m : Nat} (h0 : 0 ≤ k) (h1 : k < m) : ixN m k = some k.toNat := by
  unfold ixN
  rw [if_pos h0, if_pos h1]
theorem w_ix {k : Int} (h : Sq K H p xs) (h0 : 0 ≤ k) (h1 : xs[k.toNat]? = some v) (q : Q v H) : uIx K (.ref p) (.int k) H Q := by
  have hl := (List.getElem?_eq_some_iff.mp h1).1
  refine ⟨xs, v, h, ?_, q⟩
  unfold atI
  rw [ixN_of h0 (by omega)]
  exact h1
theorem w_ixZ {k : Int} (h : Sq K H p (ns.map V.int)) (h0 : 0 ≤ k) (h1 : k < ns.length) (q : Q (.int (ns.getD k.toNat 0)) H) : uIx K (.ref p) (.int k) H Q := by
  have hl : k.toNat < ns.length := by omega
  refine w_ix h h0 (v := .int (ns.getD k.toNat 0)) ?_ q
  rw [List.getElem?_map, List.getElem?_eq_getElem hl, List.getD_eq_getElem?_getD, List.getElem?_eq_getElem hl] <;> rfl
theorem w_set (h : H p = some (.lst xs)) (h0 : 0 ≤ k) (h1 : k < xs.length) (q : QH (upd H p (.lst (xs.set k.toNat v)))) : rSetL (.ref p) (.int k) v H QH := ⟨p, xs, k, k.toNat, rfl, rfl, h, ixN_of h0 h1, q⟩
theorem w_app (h : H p = some (.lst xs)) (hz : xs.length < 100000) (q : Q .non (upd H p (.lst (xs ++ [v])))) : tyV K "list" (.ref p) H ∧ rAppend (.ref p) [v] H Q := ⟨.inl ⟨rfl, xs, sqL_of h⟩, p, xs, v, rfl, rfl, h, sz_lt hz, q⟩
theorem ty_lst (h : H p = some (.lst xs)) {A : Prop} (a : A) : tyV K "list" (.ref p) H ∧ A := ⟨.inl ⟨rfl, xs, sqL_of h⟩, a⟩
theorem w_append (h : H p = some (.lst xs)) (hz : xs.length < 100000) (q : Q .non (upd H p (.lst (xs ++ [v])))) : rAppend (.ref p) [v] H Q := ⟨p, xs, v, rfl, rfl, h, sz_lt hz, q⟩
/-! slices -/
def cutI {α : Type} (xs : List α) (lo hi : Option Int) : List α := (xs.drop (HT.sIx xs.length 0 lo)).take (HT.sIx xs.length xs.length hi - HT.sIx xs.length 0 lo)
theorem cutV_map {α : Type} (f : α → V) (ns : List α) (lo hi : Option Int) : cutV (ns.map f) lo hi = (cutI ns lo hi).map f := by
  unfold cutV cutI
  rw [List.length_map, List.map_take, List.map_drop]
theorem cutI_take {α : Type} (xs : List α) (m : Nat) : cutI xs none (some (m : Int)) = xs.take m := by
  unfold cutI
  rw [HT.sIx_none, HT.sIx_nat]
  show List.take (min m xs.length - 0) (List.drop 0 xs) = _
  rw [Nat.sub_zero, List.drop_zero]
  rcases Nat.le_total m xs.length with h | h
  · rw [Nat.min_eq_left h]
  · rw [Nat.min_eq_right h, List.take_length, List.take_of_length_le h]
theorem cutV_whole {lo hi : Option Int} (h : HT.sIx xs.length 0 lo = 0 ∧ HT.sIx xs.length xs.length hi = xs.length) : cutV xs lo hi = xs := by
  unfold cutV
  rw [h.1, h.2, Nat.sub_zero, List.drop_zero, List.take_length]
theorem w_slS {lo hi : Option Int} (h : Sq K H p xs) (q : ∀ l H', GrA H H' → Sq K H' l (cutV xs lo hi) → Q (.ref l) H') : rSl K (.ref p) lo hi H Q := by
  rcases h with h | h
  · exact .inl ⟨p, xs, rfl, h, fun l hl => q l _ (.new hl) (sqA_of upd_same)⟩
  · exact .inr ⟨p, xs, rfl, h, fun e => q p H (fun _ => Gr.refl _ _) (.inr (by rw [cutV_whole e]; exact h)), fun _ l hl => q l _ (.new hl) (sqB_of upd_same)⟩
theorem w_slI {lo hi : Option Int} (h : Sq K H p (ns.map V.int)) (q : ∀ l H', GrA H H' → Sq K H' l ((cutI ns lo hi).map V.int) → Q (.ref l) H') : rSl K (.ref p) lo hi H Q :=
  w_slS h fun l H' g h' => q l H' g (by rw [← cutV_map]; exact h')
/-! in -/
theorem eqV_int : L2.eqV (.int i) (.int j) = decide (i = j) := by
  first
    | rfl
    | (unfold L2.eqV; simp)
theorem inV_ints : ∀ ns : List Int, inV (.int n) (ns.map V.int) = decide (n ∈ ns)
  | [] => rfl
  | m :: r => by
    have ih := inV_ints r
    unfold inV at ih ⊢
    rw [List.map_cons, List.any_cons, ih, eqV_int]
    by_cases h : m = n
    · subst h; simp
    · have h2 : ¬ n = m := fun e => h e.symm
      simp [h, h2]
theorem flat_ints : ∀ ns : List Int, (ns.map V.int).all flatV = true
  | [] => rfl
  | m :: r => by
    rw [List.map_cons, List.all_cons, flat_ints r] <;> rfl
theorem w_inI (h : Sq K H p (ns.map V.int)) (q : Q (.bl (decide (n ∈ ns))) H) : uIn K false (.int n) (.ref p) H Q := ⟨p, _, rfl, h, rfl, flat_ints ns, by rw [inV_ints]; exact q⟩
theorem w_notInI (h : Sq K H p (ns.map V.int)) (q : Q (.bl (!decide (n ∈ ns))) H) : uIn K true (.int n) (.ref p) H Q := ⟨p, _, rfl, h, rfl, flat_ints ns, by rw [inV_ints]; exact q⟩
theorem w_inC {c : Nat} {z : Str} (q : Q (.bl (decide (c ∈ z.cps.toList))) H) : uIn K false (.str ⟨#[c]⟩) (.str z) H Q := .inl ⟨c, z, rfl, rfl, q⟩
theorem w_notInC {c : Nat} {z : Str} (q : Q (.bl (!decide (c ∈ z.cps.toList))) H) : uIn K true (.str ⟨#[c]⟩) (.str z) H Q := .inl ⟨c, z, rfl, rfl, q⟩
/-! sequences of ints: ==, +, * -/
theorem dp_ints : ∀ ns : List Int, DpAll K H (ns.map V.int) (ns.map PyData.int)
  | [] => .nil
  | n :: r => .cons (.int n) (dp_ints r)
theorem lay_ints : ∀ ns : List Int, PyData.canLayAll0 (ns.map PyData.int) = true
  | [] => rfl
  | n :: r => by
    show (_ && PyData.canLayAll0 (r.map PyData.int)) = true
    rw [lay_ints r] <;> rfl
theorem shaped_L (ns : List Int) : SeqAt.shaped (.list (ns.map PyData.int)) = true := by
  unfold SeqAt.shaped
  have h1 : (PyData.list (ns.map PyData.int)).canLay0 = true := lay_ints ns
  have h2 : (PyData.list (ns.map PyData.int)).depth ≤ 64 := by
    have h := depth_ints ns
    have e : (PyData.list (ns.map PyData.int)).depth = PyData.depthAll (ns.map PyData.int) + 1 := by first | rfl | exact Nat.add_comm _ _
    omega
  rw [h1, decide_eq_true h2] <;> rfl
theorem shaped_T (ns : List Int) : SeqAt.shaped (.tuple (ns.map PyData.int)) = true := by
  unfold SeqAt.shaped
  have h1 : (PyData.tuple (ns.map PyData.int)).canLay0 = true := lay_ints ns
  have h2 : (PyData.tuple (ns.map PyData.int)).depth ≤ 64 := by
    have h := depth_ints ns
    have e : (PyData.tuple (ns.map PyData.int)).depth = PyData.depthAll (ns.map PyData.int) + 1 := by first | rfl | exact Nat.add_comm _ _
    omega
  rw [h1, decide_eq_true h2] <;> rfl
theorem w_neL (h1 : SqL K H p (ns.map V.int)) (h2 : SqL K H q (ms.map V.int)) (k : Q (.bl (!decide (ns = ms))) H) : uNe K (.ref p) (.ref q) H Q :=
  ⟨.list (ns.map PyData.int), .list (ms.map PyData.int), .lst h1 (dp_ints ns), .lst h2 (dp_ints ms), shaped_L ns, shaped_L ms, by
    have e : PyData.eqv (.list (ns.map PyData.int)) (.list (ms.map PyData.int)) = decide (ns = ms) := by
      show PyData.eqvAll _ _ = _
      exact PySem.W.ked_eqvAll ns ms
    rw [e]
    exact k⟩
theorem w_cat (h1 : H p = some (.lst xs)) (h2 : H q = some (.lst ys)) (hz : xs.length + ys.length ≤ 100000) (k : ∀ l H', H l = none → GrA H H' → H' l = some (.lst (xs ++ ys)) → Q (.ref l) H') : uAdd K (.ref p) (.ref q) H Q :=
  .inl ⟨p, q, xs, ys, rfl, rfl, h1, h2, sz_of hz, new_k k⟩
theorem w_rep (h1 : H p = some (.lst [v])) (h0 : n ≤ 100000) (hl : -(2 ^ 63) ≤ n) (k : ∀ l H', H l = none → GrA H H' → H' l = some (.lst (List.replicate n.toNat v)) → Q (.ref l) H') : uMul (.ref p) (.int n) H Q := by
  refine ⟨p, n, [v], rfl, rfl, h1, hl, by omega, sz_of (by show 1 * n.toNat ≤ 100000; omega), fun l hl2 => ?_⟩
  have e : (List.replicate n.toNat [v]).flatten = List.replicate n.toNat v := by
    induction n.toNat with
    | zero => rfl
    | succ m ih => rw [List.replicate_succ, List.flatten_cons, ih, List.replicate_succ] <;> rfl
  rw [e]
  exact k l _ hl2 (.new hl2) upd_same
/-! isinstance -/
theorem tyx_int : TyX K H (.int i) (.type "int") := .base (.int i)
theorem tyx_bl {b : Bool} : TyX K H (.bl b) (.type "bool") := .base (.bl b)
theorem tyx_str : TyX K H (.str s) (.type "str") := .base (.str s)
theorem tyx_non : TyX K H .non (.type "NoneType") := .base .non
theorem tyx_L (h : SqL K H p xs) : TyX K H (.ref p) (.type "list") := by
  rcases h with (h | ⟨o, h⟩) | ⟨o, its, n, h, hc, _⟩
  · exact .base (.lst h)
  · exact .base (.frz h)
  · exact .kList h hc
theorem tyx_T (h : SqT K H p xs) : TyX K H (.ref p) (.type "tuple") := by
  rcases h with (h | ⟨o, h⟩) | ⟨o, its, n, h, hc, _⟩
  · exact .base (.tup h)
  · exact .fTuple h
  · exact .kTuple h hc
theorem w_isi {t n : String} {b : Bool} (ty : TyX K H x (.type t)) (h : kitB t n = some b) (q : Q (.bl b) H) : rIsi K [x, .ty n] H Q := ⟨x, .ty n, .type t, .type n, b, rfl, .ty n, ty, kit_ty h, q⟩
theorem w_isiT {t n m : String} {b c : Bool} (ht : H p = some (.tup [.ty n, .ty m])) (ty : TyX K H x (.type t)) (h : kitB t n = some b) (h2 : kitB t m = some c) (q : Q (.bl (b || c)) H) : rIsiT K [x, .ref p] H Q := by
  refine ⟨x, p, _, .type t, [.type n, .type m], b || c, rfl, ht, .cons (.ty n) (.cons (.ty m) .nil), ty, ?_, q⟩
  refine kitAny_cons (kit_ty h) (fun e => ?_) (fun e => by rw [e] <;> rfl)
  rw [e]
  exact kitAny_cons (kit_ty h2) (fun e => by rw [e]; exact kitAny_nil) (fun e => by rw [e] <;> rfl)
/-! None -/
theorem w_isNo (q : Q (.bl (decide (x = .non))) H) : rIsN x .non H Q := ⟨rfl, q⟩
theorem w_notN (q : Q (.bl (!decide (x = .non))) H) : rNotN x .non H Q := ⟨rfl, q⟩
/-! truth -/
theorem w_trL {QT : Bool → Hp → Prop} (h : SqL K H p xs) (q : QT (!xs.isEmpty) H) : ∃ k', TruV K (.ref p) H k' ∧ QT k' H := ⟨_, .inl ⟨xs, h, rfl⟩, q⟩
end
end U
end
section
set_option Elab.async false
set_option linter.all false
set_option maxRecDepth 100000
set_option maxHeartbeats 4000000
namespace U
open PySem PySem.Spec PyProof.Rows L2 LamX Evl
section
variable {K : PySem.W.Frag} {T : List (Addr × Str)} {σ : L2.St} {H H1 : Hp} {D : Ends} {g : TG} {tb : TS}
def LstK (Q : VK) (xs : List V) (H1 : Hp) : Prop := xs.length ≤ sizeLine ∧ ∀ p, H1 p = none → Q (.ref p) (upd H1 p (.lst xs))
def TupK (Q : VK) (xs : List V) (H1 : Hp) : Prop := xs.length ≤ sizeLine ∧ ∀ p, H1 p = none → Q (.ref p) (upd H1 p (.tup xs))
theorem w_lstK {tA : TA} {Q : VK} (h : tA σ H fun xs H1 => LstK Q xs H1) : tLst tA σ H Q := h
theorem w_tupK {tA : TA} {Q : VK} (h : tA σ H fun xs H1 => TupK Q xs H1) : tTup tA σ H Q := h
theorem lstK {Q : VK} {xs : List V} (h : xs.length ≤ 100000) (q : ∀ p H', H p = none → GrA H H' → H' p = some (.lst xs) → Q (.ref p) H') : LstK Q xs H := lst_k h q
theorem tupK {Q : VK} {xs : List V} (h : xs.length ≤ 100000) (q : ∀ p H', H p = none → GrA H H' → H' p = some (.tup xs) → Q (.ref p) H') : TupK Q xs H := tup_k h q
theorem w_ckw {r : List V → List V → Hp → VK → Prop} {t tk : TA} {Q : VK} (h : t σ H fun vs H1 => tk σ H1 fun zs H2 => r vs zs H2 Q) : tCKw r t tk σ H Q := h
theorem w_callN {n m : Nat} {sp : Sp} {gV : List V → List V → List V} {E : XK} {t tk : TA} {Q : VK} (h : t σ H fun vs H1 => tk σ H1 fun zs H2 => vs.length = n ∧ zs.length = m ∧ sp (gV vs zs) H2 Q E) : tCallN n m sp gV E t tk σ H Q := h
theorem w_m1 {r : V → List V → Hp → VK → Prop} {to te : TE} {Q : VK} (h : to σ H fun x H1 => (∃ a, x = .str a) ∧ te σ H1 fun y H2 => r x [y] H2 Q) : tM1 r to te σ H Q := h
theorem w_yes1 {a : Str} {A : Prop} (h : A) : (∃ b, V.str a = .str b) ∧ A := ⟨⟨a, rfl⟩, h⟩
theorem w_iteNT {A B : Prop} (h : B) : if (!true) = true then A else B := by rw [if_neg (by decide)]; exact h
theorem w_iteNF {A B : Prop} (h : A) : if (!false) = true then A else B := by rw [if_pos (by decide)]; exact h
def RaK (C : Addr) (fs : List Str) (W : L2.WX) (σ : L2.St) (vs : List V) (H1 : Hp) : Prop := vs.length = fs.length ∧ ∀ d, H1 d = none → W (.ref C) (some d) σ (upd H1 d (.xd (fs.zip vs).reverse))
theorem w_raise {C : Addr} {fs : List Str} {W : L2.WX} {ta : TA} (h : ta σ H fun vs H1 => RaK C fs W σ vs H1) : tRaise C fs W ta D σ H := h
theorem raK1 {C : Addr} {f : Str} {W : L2.WX} {v : V} (h : ∀ d H', GrA H H' → H' d = some (.xd [(f, v)]) → W (.ref C) (some d) σ H') : RaK C [f] W σ [v] H := ⟨rfl, fun d hd => h d _ (.new hd) upd_same⟩
theorem raK2 {C : Addr} {f f2 : Str} {W : L2.WX} {v u : V} (h : ∀ d H', GrA H H' → H' d = some (.xd [(f2, u), (f, v)]) → W (.ref C) (some d) σ H') : RaK C [f, f2] W σ [v, u] H := ⟨rfl, fun d hd => h d _ (.new hd) upd_same⟩
theorem w_trn {k : Bool} {R : Bool → Prop} (h : R k) : ∃ k', TruV K (.bl k) H k' ∧ R k' := ⟨k, rfl, h⟩
theorem w_iteD {α : Type} {a : α} [inst : Decidable (a = a)] {A B : Prop} (h : A) : if decide (a = a) = true then A else B := by rw [decide_eq_true rfl, if_pos rfl]; exact h
theorem w_iteND {α : Type} {a : α} [inst : Decidable (a = a)] {A B : Prop} (h : B) : if (!decide (a = a)) = true then A else B := by rw [decide_eq_true rfl]; exact w_iteNT h
theorem w_tYes {QT : Bool → Hp → Prop} (h : QT true H) : tYes σ H QT := h
/-- over a text, sign by sign -/
theorem fr_T {z : Str} (Pv : Nat → L2.St → Hp → Prop) (h0 : Pv 0 σ H1) (hst : ∀ (i : Nat) c σ' H', z.cps[i]? = some c → Pv i σ' H' → g (.str ⟨#[c]⟩) σ' H' fun σ2 H2 => tb { D with nx := Pv (i + 1), ct := Pv (i + 1), bk := D.nx } σ2 H2)
    (hd : ∀ σ' H', Pv z.cps.size σ' H' → D.nx σ' H') : FrT g tb D σ (.str z) H1 :=
  ⟨z, rfl, frG (n := z.cps.size) (yl := fun _ _ _ => True) Pv h0 fun i σ' H' hi p => ⟨fun hlt => ⟨hlt, fun x H'' y => by
    obtain ⟨e1, c, e2, e3⟩ := y
    subst e1 e3
    exact hst i c σ' _ e2 p⟩, fun e => ⟨by subst e; exact Nat.le_refl _, hd σ' H' (by subst e; exact p)⟩⟩⟩
/-- the kinds of things that are asked whether they are whole numbers -/
inductive Kd (K : PySem.W.Frag) (H : Hp) : V → Prop
  | int (i : Int) : Kd K H (.int i)
  | bl (b : Bool) : Kd K H (.bl b)
  | str (s : Str) : Kd K H (.str s)
  | non : Kd K H .non
  | lst {a : Addr} {xs : List V} (h : SqL K H a xs) : Kd K H (.ref a)
  | tup {a : Addr} {xs : List V} (h : SqT K H a xs) : Kd K H (.ref a)
theorem Gr.kd {H' : Hp} {x : V} (g : Gr T H H') (h : Kd K H x) : Kd K H' x := by
  cases h with
  | int i => exact .int i
  | bl b => exact .bl b
  | str s => exact .str s
  | non => exact .non
  | lst h => exact .lst (g.sqL h)
  | tup h => exact .tup (g.sqT h)
def isInt : V → Bool
  | .int _ => true
  | _ => false
def isBl : V → Bool
  | .bl _ => true
  | _ => false
def isStr : V → Bool
  | .str _ => true
  | _ => false
theorem isi_int {x : V} {Q : VK} (h : Kd K H x) (q : Q (.bl (isInt x || isBl x)) H) : rIsi K [x, .ty "int"] H Q := by
  cases h with
  | int i => exact w_isi tyx_int (b := true) (by decide +kernel) q
  | bl b => exact w_isi tyx_bl (b := true) (by decide +kernel) q
  | str s => exact w_isi tyx_str (b := false) (by decide +kernel) q
  | non => exact w_isi tyx_non (b := false) (by decide +kernel) q
  | lst h => exact w_isi (tyx_L h) (b := false) (by decide +kernel) q
  | tup h => exact w_isi (tyx_T h) (b := false) (by decide +kernel) q
theorem isi_bool {x : V} {Q : VK} (h : Kd K H x) (q : Q (.bl (isBl x)) H) : rIsi K [x, .ty "bool"] H Q := by
  cases h with
  | int i => exact w_isi tyx_int (b := false) (by decide +kernel) q
  | bl b => exact w_isi tyx_bl (b := true) (by decide +kernel) q
  | str s => exact w_isi tyx_str (b := false) (by decide +kernel) q
  | non => exact w_isi tyx_non (b := false) (by decide +kernel) q
  | lst h => exact w_isi (tyx_L h) (b := false) (by decide +kernel) q
  | tup h => exact w_isi (tyx_T h) (b := false) (by decide +kernel) q
theorem isi_str {x : V} {Q : VK} (h : Kd K H x) (q : Q (.bl (isStr x)) H) : rIsi K [x, .ty "str"] H Q := by
  cases h with
  | int i => exact w_isi tyx_int (b := false) (by decide +kernel) q
  | bl b => exact w_isi tyx_bl (b := false) (by decide +kernel) q
  | str s => exact w_isi tyx_str (b := true) (by decide +kernel) q
  | non => exact w_isi tyx_non (b := false) (by decide +kernel) q
  | lst h => exact w_isi (tyx_L h) (b := false) (by decide +kernel) q
  | tup h => exact w_isi (tyx_T h) (b := false) (by decide +kernel) q
theorem isi_L {a : Addr} {xs : List V} {n : String} {b : Bool} {Q : VK} (h : SqL K H a xs) (e : kitB "list" n = some b) (q : Q (.bl b) H) : rIsi K [.ref a, .ty n] H Q := w_isi (tyx_L h) e q
theorem isi_T {a : Addr} {xs : List V} {n : String} {b : Bool} {Q : VK} (h : SqT K H a xs) (e : kitB "tuple" n = some b) (q : Q (.bl b) H) : rIsi K [.ref a, .ty n] H Q := w_isi (tyx_T h) e q
theorem isi_seqLT {a p : Addr} {xs : List V} {Q : VK} (ht : H p = some (.tup [.ty "list", .ty "tuple"])) (h : Sq K H a xs) (q : Q (.bl true) H) : rIsiT K [.ref a, .ref p] H Q := by
  rcases h with h | h
  · exact w_isiT ht (tyx_L h) (b := true) (c := false) (by decide +kernel) (by decide +kernel) q
  · exact w_isiT ht (tyx_T h) (b := false) (c := true) (by decide +kernel) (by decide +kernel) q
theorem isi_strN {a : Addr} {xs : List V} {Q : VK} (h : Sq K H a xs) (q : Q (.bl false) H) : rIsi K [.ref a, .ty "str"] H Q := by
  rcases h with h | h
  · exact w_isi (tyx_L h) (b := false) (by decide +kernel) q
  · exact w_isi (tyx_T h) (b := false) (by decide +kernel) q
end
end U
end
section
set_option Elab.async false
set_option linter.all false
set_option maxRecDepth 100000
set_option maxHeartbeats 4000000
/-! enumerate over a tuple -/
namespace U
open PySem PySem.Spec PyProof.Rows L2
theorem met_enum {v : Value} {o : Obj} {H : Heap → Prop} (B : Begins v o H) :
    Meets (Builtin.«enumerate.__new__» ⟨[.type "enumerate", v], []⟩) (fun _ R s => H s.heap ∧
      R (.ok (.ret (.ref (s.heap.push o).objs.size))) { s with heap := (s.heap.push o).push { cls := .type "enumerate", data := .fields #[.none, .bool false, .ref s.heap.objs.size, rawInt 0, .none, .none] } }) :=
  .of_wp fun prog w A R s h => by
    obtain ⟨hp, g, d, tk, os⟩ := s; obtain ⟨h1, h⟩ := h
    have hsub := sub_enumerate
    have q1 : ∀ {A' : Around} {E : Value → Shared → Prop} {Q : Value → Shared → Prop}, Q (.ref hp.objs.size) ⟨hp.push o, g, d, tk, os⟩ → wpAny (model prog w) A' (pyIter v) Q E ⟨hp, g, d, tk, os⟩ :=
      fun q => B.iter prog w _ _ ⟨hp, g, d, tk, os⟩ _ h1 q
    wp_walk using q1
    refine wpAny_stack_any fun st => wpAny_pure ?_
    split
    · rename_i c _ _ _ _ _
      cases (c == Value.type "enumerate")
      · wp_walk using q1
        exact ⟨_, rfl, h⟩
      · wp_walk using q1
        exact ⟨_, rfl, h⟩
    · wp_walk using q1
      exact ⟨_, rfl, h⟩
theorem call_enumT {prog : Program} {w : World} {A : Around} {E : Value → Shared → Prop} {s : Shared} {v : Value} {o : Obj} {H : Heap → Prop} {Q : Value → Shared → Prop} (B : Begins v o H) (h1 : H s.heap)
    (h : ∀ h', IsEnum h' (s.heap.objs.size + 1) s.heap.objs.size 0 .none → h'.get? s.heap.objs.size = some o → h'.objs.size = s.heap.objs.size + 2 →
      (∀ b o, s.heap.get? b = some o → h'.get? b = some o) → Q (.ref (s.heap.objs.size + 1)) { s with heap := h' }) :
    wpAny (model prog w) A (call (.type "enumerate") [v]) Q E s := by
  refine callType_new F.called_enumerate (by decide) (F.typeCall_enumerate_1 _) (F.newCall_enumerate_1 _) (fun obj => F.args_object_init_2 obj _) F.entry_enumerate_new
    (met_enum B) ⟨h1, ?_⟩
  have hz : (s.heap.push o).objs.size = s.heap.objs.size + 1 := Heap.size_push ..
  show _ ∧ _
  rw [hz]
  have he : IsEnum ((s.heap.push o).push { cls := .type "enumerate", data := .fields #[.none, .bool false, .ref s.heap.objs.size, rawInt 0, .none, .none] }) (s.heap.objs.size + 1) s.heap.objs.size 0 .none := by
    have := Heap.get?_push_size (s.heap.push o) (o := { cls := .type "enumerate", data := .fields #[.none, .bool false, .ref s.heap.objs.size, rawInt 0, .none, .none] }) rfl
    rw [hz] at this; exact this
  refine ⟨⟨_, he, rfl⟩, h _ he (Heap.get?_push_of_some _ (Heap.get?_push_size _ B.free)) (by rw [Heap.size_push, hz]) fun b o x => Heap.get?_push_of_some _ (Heap.get?_push_of_some _ x)⟩
/-- the tuple at a, each item in a new pair -/
def IteT (K : PySem.W.Frag) (a : Addr) : It :=
  ⟨fun i H => ∃ (xs : List V) (x : V), SqT K H a xs ∧ xs[i]? = some x, fun i H v H' => ∃ T x, v = .ref T ∧ H T = none ∧ H' = upd H T (.tup [.int (i : Nat), x]) ∧ ∀ xs, SqT K H a xs → xs[i]? = some x, fun i H => ∃ xs : List V, SqT K H a xs ∧ xs.length ≤ i⟩
theorem turn_enumT {P : Program} {w : World} {K : PySem.W.Frag} {elts : List Expr} {kk : Nat} {tpos : Pos} (a e it : Addr) :
    Turn P w K (.Tuple elts kk tpos) (IteT K a) [e, it] e (fun i h => (∃ old, IsEnum h e it ((i : Nat) : Int) old) ∧ h.IsTupleIter it a i ∧ e ≠ it) where
  mem := by simp
  obj := fun i h st b hb => by
    obtain ⟨⟨old, he⟩, ⟨o, ho, hc, hd⟩, _⟩ := st
    have e' : b = e ∨ b = it := by simpa using hb
    rcases e' with z | z
    · rw [z]; exact ⟨_, he, fun v q => nomatch q⟩
    · rw [z]; exact ⟨o, ho, fun v q => by rw [hd] at q; cases q⟩
  keep := fun i h h' st k => let ⟨⟨old, he⟩, hi, hne⟩ := st; ⟨⟨old, k e (by simp) _ he⟩, hi.at fun o q => k it (by simp) o q, hne⟩
  item := by
    intro X hP hw hK hc i pins s σ H E I hf st hg
    subst hP hw hK
    obtain ⟨⟨old, he⟩, hit, hne⟩ := st
    obtain ⟨xs, x, hq, hx⟩ := hg
    obtain ⟨its, rv, p, hz⟩ := I.tuple hq
    obtain ⟨u, hu, ru⟩ := rv.get hx
    have hT0 : s.heap.IsTuple a its.toArray := p
    have hel : e < s.heap.objs.size := Heap.lt_size he
    have hil : it < s.heap.objs.size := by obtain ⟨_, q, _⟩ := hit; exact Heap.lt_size q
    have hai : a ≠ it := fun z => by
      subst z
      obtain ⟨o1, g1, c1, _⟩ := hT0
      obtain ⟨o2, g2, c2, _⟩ := hit
      rw [g1] at g2
      cases g2
      rw [c1] at c2
      injection c2 with c3
      revert c3
      decide
    have hea : e ≠ a := fun z => by
      subst z
      obtain ⟨o1, g1, c1, _⟩ := hT0
      have g2 : s.heap.get? e = _ := he
      rw [g1] at g2
      cases g2
      injection c1 with c3
      revert c3
      decide
    have hef : e ∉ [it, a] := fun z => by
      simp only [List.mem_cons, List.not_mem_nil, or_false] at z
      rcases z with z | z
      · exact hne z
      · exact hea z
    have hlt : i < its.toArray.size := by
      have := (List.getElem?_eq_some_iff.mp hu).1
      simpa using this
    refine wpAny_pyNext_enum_itemD (Draws.tuple (A := X.A.in1) (I.ok.hd hc) it a hai its.toArray) he ⟨hit, hT0⟩ hlt hne hef fun y h' tk hy ho hst' hT hsz hk => ?_
    have ey : y = u := by
      have h1 : its.toArray[i]? = some u := by simpa using hu
      have h2 : its.toArray[i]? = some y := hy
      rw [h1] at h2
      exact (Option.some.inj h2).symm
    subst ey
    refine ⟨_, rfl, wpAny_letOwnedTupleGo_enum (s := { s with heap := h', toks := tk + 1 }) ho fun h'' he' sb => ?_⟩
    have hT2 : h''.get? s.heap.objs.size = some { cls := .type "tuple", data := .seq #[.int i tk, y] } := (sb.2 _ (Nat.ne_of_gt hel)).trans hT
    have new : ObjOk X.prog X.w (upd H s.heap.objs.size (.tup [.int (i : Nat), x])) h'' s.heap.objs.size (.tup [.int (i : Nat), x]) :=
      ⟨by show 2 ≤ sizeLine; decide, [.int i tk, y], .cons ⟨_, rfl⟩ (.cons ru .nil), ⟨_, hT2, rfl, _, rfl⟩⟩
    have I1 : Inv X pins σ (upd H s.heap.objs.size (.tup [.int (i : Nat), x])) { s with heap := h'', toks := tk + 1 } :=
      I.turnedNew (ch := [e, it]) (fun b ob hb q => (sb.2 b (fun z => hb (by simp [z]))).trans (hk b ob (fun z => hb (by simp [z])) (fun z => hb (by simp [z])) q)) hf (Nat.le_refl _) new
    refine ⟨.ref s.heap.objs.size, _, I1, rfl, ⟨_, x, rfl, I.hok.fresh (Nat.le_refl _), rfl, fun ys hy => by rw [I.tuple_inj hy hq]; exact hx⟩, ⟨⟨y, ?_⟩, hst'.1.at fun o q => (sb.2 it (Ne.symm hne)).trans q, hne⟩, fun b hb => ?_⟩
    · have e1 : ((i + 1 : Nat) : Int) = (i : Int) + 1 := by omega
      rw [e1]; exact he'
    · have hb' : b < s.heap.objs.size := by
        have e' : b = e ∨ b = it := by simpa using hb
        rcases e' with z | z
        · rw [z]; exact hel
        · rw [z]; exact hil
      rw [upd_ne (Nat.ne_of_lt hb')]
      exact (hf b hb).1
  done := by
    intro X hP hw hK hc i pins s σ H E I hf st hg
    subst hP hw hK
    obtain ⟨⟨old, he⟩, hit, hne⟩ := st
    obtain ⟨xs, hq, hx⟩ := hg
    obtain ⟨its, rv, p, hz⟩ := I.tuple hq
    have hT0 : s.heap.IsTuple a its.toArray := p
    obtain ⟨f0, f1, f2, f3, f4, f5⟩ := hf it (by simp)
    have hl := rv.length
    have hT : s.TypeIs (.ref e) "enumerate" := ⟨_, he, rfl⟩
    unfold pyNext
    refine wpAny_bind (wpAny_attempt (wpAny_callSpecial?_slot (name := Str.ofString "__next__") hT F.slot_enumerate_next
      (wpAny_call_entry F.slot_enumerate_next hT F.entry_enumerate_next ?_ (F.args_enumerate_next_1 _))))
    show wpAny _ _ (field (.ref e) 2 >>= _) _ _ _
    refine wpAny_bind (wpAny_field he rfl (x := .ref it) rfl ?_)
    refine wpAny_bind (wpAny_nextOf_tuple_end (I.ok.hd hc) hit hT0 (by simp; omega) fun h' x he' hx' => ?_)
    obtain ⟨o, ho, hc2⟩ := hx'
    refine wpAny_bind (wpAny_isInstance (T := "StopIteration") (b := true) ⟨o, ho, hc2⟩ isSubtype_stop ?_)
    exact wpAny_pure ⟨rfl, I.turned (t' := s.toks) (fun b o hb e => he' b o hb e) f0 f1 f3 f4 f5⟩
  self := fun A i s Q E st h => let ⟨⟨_, he⟩, _⟩ := st; wpAny_pyIter_enum he h
def iEnumT (K : PySem.W.Frag) (ta : TA) : TI := fun σ H R => ta σ H fun vs H1 => ∃ a xs, vs = [.ref a] ∧ SqT K H1 a xs ∧ R (IteT K a) H1
theorem pi_enumT {X : Cx} {e : Expr} {ta : TA} {p pos tpos : Pos} {elts : List Expr} {kk : Nat} (hg : Gl X "enumerate") (hm : X.mg "enumerate" = none) (ha : PA X [e] ta) (hs : starEach [e] X.env = [(false, eval e X.env)] := by rfl) :
    PI X (.Tuple elts kk tpos) (.Call (.Name "enumerate" p) [e] [] pos) (iEnumT X.K ta) := by
  refine ⟨fun pins s σ H R I h => ?_⟩
  refine Call_ (ld_blt I hg hm boot_enumerate (PyProof.Rows.callWith_type1 (thn (ha.run pos pins s σ H _ I h) fun us s1 ⟨vs, H1, I1, r1, q1⟩ => ?_) hs rfl))
  obtain ⟨a, xs, ex, hq, q⟩ := q1
  subst ex
  cases r1 with
  | cons r rr =>
    cases rr
    cases r
    obtain ⟨its, rv, p', hz⟩ := I1.tuple hq
    refine call_enumT (begins_tuple a its.toArray) p' fun h' he hit hsz hk => wpAny_pyIter_enum he ?_
    have I2 : Inv X pins σ H1 { s1 with heap := h' } := I1.kept (t' := s1.toks) hk
    refine ⟨s1.heap.objs.size + 1, [s1.heap.objs.size + 1, s1.heap.objs.size], _, _, H1, rfl, I2, turn_enumT a (s1.heap.objs.size + 1) s1.heap.objs.size, ⟨⟨.none, he⟩, ⟨_, hit, rfl, rfl⟩, Nat.succ_ne_self _⟩, fun b hb => ?_, q⟩
    have e' : b = s1.heap.objs.size + 1 ∨ b = s1.heap.objs.size := by simpa using hb
    have hle : s1.heap.objs.size ≤ b := by
      rcases e' with z | z
      · rw [z]; exact Nat.le_add_right _ _
      · rw [z]; exact Nat.le_refl _
    exact I1.fpOk hle (I1.hok.fresh hle)
section
variable {K : PySem.W.Frag} {T : List (Addr × Str)} {H H1 : Hp} {tb : TS} {D : Ends} {σ : L2.St} {ta : TA} {g : TG}
theorem yl_enumT {a : Addr} {xs : List V} (h : SqT K H1 a xs) : Yl T (IteT K a) H1 xs.length fun i x H' => ∃ p y, x = .ref p ∧ H' p = some (.tup [.int (i : Nat), y]) ∧ xs[i]? = some y := fun H' g => by
  have h' := g.sqT h
  refine ⟨fun i hi => ⟨xs, xs[i], h', List.getElem?_eq_getElem hi⟩, fun i hi => ⟨xs, h', hi⟩, fun i x H'' hi y => ?_⟩
  obtain ⟨p, z, e1, e2, e3, f⟩ := y
  rw [e3]
  exact ⟨Gr.new e2, p, z, e1, upd_same, f xs h'⟩
def FrET (K : PySem.W.Frag) (g : TG) (tb : TS) (D : Ends) (σ : L2.St) (xs : List V) (H1 : Hp) : Prop := ∃ a ys, xs = [.ref a] ∧ SqT K H1 a ys ∧ Fr (IteT K a) g tb D σ H1
theorem w_frET (h : ta σ H fun x H1 => FrET K g tb D σ x H1) : tFor (iEnumT K ta) g tb D σ H := h
theorem fr_ET {a : Addr} {xs : List V} {j j2 : Nat} (hs : SqT K H1 a xs) (Pv : Nat → L2.St → Hp → Prop) (h0 : Pv 0 σ H1) (hk : ∀ i σ' H', Pv i σ' H' → Gr T H1 H')
    (hst : ∀ (i : Nat) x σ' H' H2, xs[i]? = some x → Pv i σ' H' → Gr T H' H2 → tb { D with nx := Pv (i + 1), ct := Pv (i + 1), bk := D.nx } ((σ'.set j (some (.int (i : Nat)))).set j2 (some x)) H2) (hd : ∀ σ' H', Pv xs.length σ' H' → D.nx σ' H') :
    FrET K (gTup K 2 (gCons (gName j) (gCons (gName j2) gNil))) tb D σ [.ref a] H1 := by
  refine ⟨a, xs, rfl, hs, frG (n := xs.length) (yl := fun _ _ _ => True) Pv h0 fun i σ' H' hi p => ?_⟩
  obtain ⟨y1, y2, y3⟩ := yl_enumT (T := T) hs H' (hk i σ' H' p)
  refine ⟨fun hlt => ⟨y1 i hlt, fun x H'' y => ?_⟩, fun e => ⟨y2 i (by omega), hd σ' H' (by rw [← e]; exact p)⟩⟩
  obtain ⟨gr, q, z, rfl, h1, h2⟩ := y3 i x H'' hlt y
  exact ⟨q, _, rfl, .inl (.inl h1), rfl, _, _, rfl, _, _, rfl, rfl, hst i z σ' H' H'' h2 p gr⟩
end
end U
end
section
set_option Elab.async false
set_option linter.all false
set_option maxRecDepth 100000
set_option maxHeartbeats 4000000
/-! the jar that a law draws from: one thing, whatever stands in it -/
namespace U
open PySem PySem.Spec PyProof.Rows L2 LamX Evl
/-- what stands in a jar: the cells, the next one's place, the great cell, its turns, the stir, the count -/
structure JarV (c : Addr) (jv : List V) : Prop where
  is : ∃ p b k s m : Int, jv = [.ref c, .int p, .int b, .int k, .int s, .int m] ∧ 0 ≤ p ∧ 0 ≤ s ∧ s < 2147483579
def JarO (J c : Addr) : HO := .ext fun h => ∃ (jv : List V) (its : List Value) (n : Nat), JarV c jv ∧ Vals jv its ∧ h.get? J = some { cls := .type "list", data := .seq its.toArray n }
section
variable {P : Program} {w : World} {H : Hp} {h : Heap} {J c : Addr}
theorem jar_ok {jv : List V} {its : List Value} {n : Nat} (g : JarV c jv) (r : Vals jv its) (e : h.get? J = some { cls := .type "list", data := .seq its.toArray n }) : ObjOk P w H h J (JarO J c) :=
  ⟨⟨jv, its, n, g, r, e⟩, ⟨_, e⟩, fun h1 h2 z k => by
    obtain ⟨jv, its, n, g, r, e⟩ := z
    exact ⟨jv, its, n, g, r, k _ e⟩⟩
theorem jar_at (hok : HOk P w H h) (e : H J = some (JarO J c)) : ∃ (jv : List V) (its : List Value) (n : Nat), JarV c jv ∧ Vals jv its ∧ h.get? J = some { cls := .type "list", data := .seq its.toArray n } := by
  have x : ObjOk P w H h J (.ext fun h => ∃ (jv : List V) (its : List Value) (n : Nat), JarV c jv ∧ Vals jv its ∧ h.get? J = some { cls := .type "list", data := .seq its.toArray n }) := hok J _ e
  exact x.1
theorem jarV_len {jv : List V} (g : JarV c jv) : jv.length = 6 := by
  obtain ⟨p, b, k, s, m, e, _⟩ := g.is
  rw [e]
  rfl
theorem lst_at {xs : List V} (hok : HOk P w H h) (e : H J = some (.lst xs)) : ∃ (its : List Value) (n : Nat), Vals xs its ∧ h.get? J = some { cls := .type "list", data := .seq its.toArray n } := by
  have x : ObjOk P w H h J (.lst xs) := hok J _ e
  exact x.2
/-- what stands at one place is told otherwise: neither a tuple nor a dict of an instance -/
theorem hok_upd {o u : HO} (hok : HOk P w H h) (e : H J = some o) (n1 : ∀ x, o ≠ .own x) (n2 : ∀ xs, o ≠ .tup xs) (hu : ObjOk P w (upd H J u) h J u) : HOk P w (upd H J u) h := fun b v q => by
  by_cases hb : b = J
  · rw [hb, upd_same] at q
    cases q
    rw [hb]
    exact hu
  · rw [upd_ne hb] at q
    refine (hok b v q).stay (fun _ _ _ z => z) (fun a z => ?_) fun a xs z => ?_
    · rw [upd_ne (fun y => n1 _ (by rw [y, e] at z; exact Option.some.inj z))]
      exact z
    · rw [upd_ne (fun y => n2 _ (by rw [y, e] at z; exact Option.some.inj z))]
      exact z
theorem lst_own {xs : List V} : ∀ x, HO.lst xs ≠ .own x := fun _ z => by cases z
theorem lst_tup {xs : List V} : ∀ ys, HO.lst xs ≠ .tup ys := fun _ z => by cases z
theorem jar_own : ∀ x, JarO J c ≠ .own x := fun x z => by
  have z' : HO.ext _ = HO.own x := z
  cases z'
theorem jar_tup : ∀ ys, JarO J c ≠ .tup ys := fun x z => by
  have z' : HO.ext _ = HO.tup x := z
  cases z'
theorem jar_frz {o : Obj} {u : HO} : JarO J c ≠ .frz o u := fun z => by
  have z' : HO.ext _ = HO.frz o u := z
  cases z'
theorem jar_tbl : ∀ ps, JarO J c ≠ .tbl ps := fun x z => by
  have z' : HO.ext _ = HO.tbl x := z
  cases z'
end
section
variable {P : Program} {w : World} {K : PySem.W.Frag} {mg : Str → Option Value} {base : Heap} {k : Nat} {f : Addr} {fd : FuncData} {ps : List Str} {sp sp' : Sp}
/-- a def that draws: within it the jar is a list -/
theorem fn_jar (F : FnOk P w K mg base (L2N.CX P w) k f fd ps sp) (len : ∀ vs H Q E, sp' vs H Q E → vs.length = ps.length)
    (h : ∀ vs H Q E, sp' vs H Q E → ∃ J c, H J = some (JarO J c) ∧ ∀ jv, JarV c jv → sp vs (upd H J (.lst jv)) (fun v H' => ∃ jv', H' J = some (.lst jv') ∧ JarV c jv' ∧ Q v (upd H' J (JarO J c))) fun _ _ _ => False) :
    FnOk P w K mg base (L2N.CX P w) k f fd ps sp' := by
  refine ⟨len, fun A outer s H args us vs Q E hr e0 hb r q => ?_⟩
  obtain ⟨J, c, hJ, q⟩ := h _ _ _ _ q
  obtain ⟨jv, its, n, g, rv, ho⟩ := jar_at e0.hok hJ
  have nJ : ∀ b, H b = none → b ≠ J := fun b z y => by rw [y, hJ] at z; cases z
  have e2 : Env0 P w K mg base A outer s (upd H J (.lst jv)) := by
    refine ⟨e0.frames, e0.mod, fun b o z => ⟨(e0.bs b o z).1, ?_⟩, e0.bsz, e0.funs, fun b z => ?_, ?_, e0.bare⟩
    · have := (e0.bs b o z).2
      rw [upd_ne (nJ b this)]
      exact this
    · have := e0.frf b z
      rw [upd_ne (nJ b this)]
      exact this
    · refine hok_upd e0.hok hJ jar_own jar_tup ⟨by rw [jarV_len g]; decide, its, n, rv, ho⟩
  refine codeAny_mono (F.run A outer s _ args us vs _ _ hr e2 hb r (q jv g)) fun rs s' hq => ?_
  cases rs with
  | error e =>
    exact (noCX s _ e s' hq).elim
  | ok fl =>
    cases fl with
    | ret u =>
      obtain ⟨v, H3, os, bare, un, hok, rv', jv', h3, g', q'⟩ := hq
      obtain ⟨its', n', rv3, ho3⟩ := lst_at hok h3
      have ne : ∀ b o, H b = some o → o ≠ JarO J c → b ≠ J := fun b o z d y => by
        rw [y, hJ] at z
        exact d (Option.some.inj z).symm
      refine ⟨v, upd H3 J (JarO J c), os, bare, ⟨fun b o e n hb hx => ?_, fun b o e n hb hx => ?_, fun b o e n hx => ?_, un.there, fun b xs e => ?_, fun b o u e => ?_, fun b ps e => ?_⟩, ?_, rv', q'⟩
      · exact un.keep b o e (by rw [upd_ne (nJ b n)]; exact n) hb hx
      · exact un.slot b o e (by rw [upd_ne (nJ b n)]; exact n) hb hx
      · rw [upd_ne (nJ b n)]
        exact un.free b o e (by rw [upd_ne (nJ b n)]; exact n) hx
      · have nb := ne b _ e (fun z => jar_tup _ z.symm)
        rw [upd_ne nb]
        exact un.tups b xs (by rw [upd_ne nb]; exact e)
      · have nb := ne b _ e (fun z => jar_frz z.symm)
        rw [upd_ne nb]
        exact un.frzs b o u (by rw [upd_ne nb]; exact e)
      · have nb := ne b _ e (fun z => jar_tbl _ z.symm)
        rw [upd_ne nb]
        exact un.tbls b ps (by rw [upd_ne nb]; exact e)
      · exact hok_upd hok h3 lst_own lst_tup (jar_ok g' rv3 ho3)
    | next => exact False.elim hq
    | brk => exact False.elim hq
    | cont => exact False.elim hq
/-- the def that makes it -/
theorem fn_bag (F : FnOk P w K mg base (L2N.CX P w) k f fd ps sp) (len : ∀ vs H Q E, sp' vs H Q E → vs.length = ps.length)
    (h : ∀ vs H Q E, sp' vs H Q E → sp vs H (fun v H' => ∃ J c jv, v = .ref J ∧ H J = none ∧ H' J = some (.lst jv) ∧ JarV c jv ∧ Q v (upd H' J (JarO J c))) fun _ _ _ => False) :
    FnOk P w K mg base (L2N.CX P w) k f fd ps sp' := by
  refine ⟨len, fun A outer s H args us vs Q E hr e0 hb r q => ?_⟩
  refine codeAny_mono (F.run A outer s _ args us vs _ _ hr e0 hb r (h _ _ _ _ q)) fun rs s' hq => ?_
  cases rs with
  | error e =>
    exact (noCX s _ e s' hq).elim
  | ok fl =>
    cases fl with
    | ret u =>
      obtain ⟨v, H3, os, bare, un, hok, rv', J, c, jv', ev, hJ, h3, g', q'⟩ := hq
      obtain ⟨its', n', rv3, ho3⟩ := lst_at hok h3
      have ne : ∀ b o, H b = some o → b ≠ J := fun b o z y => by rw [y, hJ] at z; cases z
      refine ⟨v, upd H3 J (JarO J c), os, bare, ⟨un.keep, un.slot, fun b o e n hx => ?_, un.there, fun b xs e => ?_, fun b o u e => ?_, fun b ps e => ?_⟩, ?_, rv', q'⟩
      · have z := un.free b o e n hx
        rw [upd_ne (fun y => by rw [y, h3] at z; cases z)]
        exact z
      · rw [upd_ne (ne b _ e)]
        exact un.tups b xs e
      · rw [upd_ne (ne b _ e)]
        exact un.frzs b o u e
      · rw [upd_ne (ne b _ e)]
        exact un.tbls b ps e
      · exact hok_upd hok h3 lst_own lst_tup (jar_ok g' rv3 ho3)
    | next => exact False.elim hq
    | brk => exact False.elim hq
    | cont => exact False.elim hq
theorem Has.jar {x : Str} (h0 : Has P w K mg base x k ps sp) (len : ∀ vs H Q E, sp' vs H Q E → vs.length = ps.length)
    (h : ∀ vs H Q E, sp' vs H Q E → ∃ J c, H J = some (JarO J c) ∧ ∀ jv, JarV c jv → sp vs (upd H J (.lst jv)) (fun v H' => ∃ jv', H' J = some (.lst jv') ∧ JarV c jv' ∧ Q v (upd H' J (JarO J c))) fun _ _ _ => False) : Has P w K mg base x k ps sp' := by
  obtain ⟨g, kp, fd, F, B⟩ := h0
  exact ⟨g, kp, fd, fn_jar F len h, B⟩
theorem Has.bag {x : Str} (h0 : Has P w K mg base x k ps sp) (len : ∀ vs H Q E, sp' vs H Q E → vs.length = ps.length)
    (h : ∀ vs H Q E, sp' vs H Q E → sp vs H (fun v H' => ∃ J c jv, v = .ref J ∧ H J = none ∧ H' J = some (.lst jv) ∧ JarV c jv ∧ Q v (upd H' J (JarO J c))) fun _ _ _ => False) : Has P w K mg base x k ps sp' := by
  obtain ⟨g, kp, fd, F, B⟩ := h0
  exact ⟨g, kp, fd, fn_bag F len h, B⟩
/-- a jar, and its cells -/
def Jar (K : PySem.W.Frag) (H : Hp) (J : Addr) : Prop := ∃ c, ∃ ns : List Int, H J = some (JarO J c) ∧ SqL K H c (ns.map V.int) ∧ ns.length ≤ 1000
theorem Gr.jar {T : List (Addr × Str)} {H H' : Hp} {J : Addr} (g : Gr T H H') (h : Jar K H J) : Jar K H' J := by
  obtain ⟨c, ns, h1, h2, h3⟩ := h
  exact ⟨c, ns, g.keep J _ h1 fun _ z => jar_tbl _ z, g.sqL h2, h3⟩
end
end U
end
section
set_option Elab.async false
set_option linter.all false
set_option maxRecDepth 100000
set_option maxHeartbeats 4000000
/-! defs that get the handled exception -/
namespace U
open PySem PySem.Spec PyProof.Rows L2 LamX Evl L2H HotX LHot LX
theorem roomH_units {k : Nat} {A : Around} (r : RoomH k A) : A.units + 64 < cLine := by have := r.un; omega
structure HasE (P : Program) (w : World) (K : PySem.W.Frag) (mg : Str → Option Value) (base : Heap) (x : Str) (k : Nat) (ps : List Str) (sp : SpE) : Prop where
  g : mg x = some (.ref (He.ga K x))
  kp : PySem.W.keepIn K (.ref (He.ga K x)) = true
  fn : ∃ fd, FnE P w K mg base (L2N.CX P w) k (He.ga K x) fd ps sp ∧ Binds K fd ps []
section
variable {X : Cx} {k n : Nat} {x : Str} {ps : List Str} {sp : SpE} {e : Expr} {es : List Expr} {t : TA} {p pos : Pos} {a D : Addr} {c : Value} {d : Option Addr}
theorem pe_callUE (h : HasE X.prog X.w X.K X.mg X.base x k ps sp) (hr : RoomH n X.A) (hk : k ≤ n) (hc : HotE X a c d) (hg : Gl X x) (ha : PA X (e :: es) t)
    (hdb : (x == ("__debug__" : Str)) = false := by decide) (he : starEach (e :: es) X.env = (false, eval e X.env) :: starEach es X.env := by rfl) (hpl : (backTo pos (starEach es X.env)).any (·.1) = false := by rfl) :
    PE X (.Call (.Name x p) (e :: es) [] pos) (tCallE sp a c d t) := by
  obtain ⟨g, kp, fd, F, B⟩ := h
  exact pe_callE F (hr.mono hk) hc hg g kp B noCX ha hdb he hpl
/-- e.f: that the class has no such name is asked where it is read -/
def tXG (K : PySem.W.Frag) (D a : Addr) (d : Option Addr) (f : Str) (te : TE) : TE := fun σ H Q => PySem.W.findIn K (.ref D) f = some none ∧ tXF a d f te σ H Q
theorem pe_xG {te : TE} {f : Str} (T : XfC X.K D) (hp : PinE X a (.ref D) d) (he : PE X e te) (hb : attributeBase e f X.env (eval e X.env) = eval e X.env := by rfl) : PE X (.Attribute e f pos) (tXG X.K D a d f te) :=
  ⟨fun pins s σ H Q I h => (pe_xF (pos := pos) T h.1 hp he hb).run pins s σ H Q I h.2⟩
end
section
variable {K : PySem.W.Frag} {σ : L2.St} {H : Hp} {Q : VK} {te : TE} {a D dd : Addr} {f : Str} {fs : List (Str × V)} {v : V}
theorem w_xG (h0 : PySem.W.findIn K (.ref D) f = some none) (h : te σ H fun x H1 => x = .ref a ∧ ∃ (dd' : Addr) (fs : List (Str × V)) (v : V), some dd = some dd' ∧ H1 dd' = some (.xd fs) ∧ fs.lookup f = some v ∧ Q v H1) : tXG K D a (some dd) f te σ H Q := ⟨h0, h⟩
theorem w_callE {sp : SpE} {c : Value} {d : Option Addr} {t : TA} (h : t σ H fun vs H1 => sp a c d vs H1 Q (fun _ _ _ => False)) : tCallE sp a c d t σ H Q := h
/-- isinstance of the handled exception -/
theorem w_isX {C : Addr} {b : Bool} (h : LE.isB K D (.ref C) b = true) (hd : H dd = some (.xd fs)) (q : Q (.bl b) H) : rIsX K D a (some dd) [.ref a, .ref C] H Q := ⟨.ref C, .ref C, b, rfl, .own C, of_decide_eq_true h, .inr ⟨dd, fs, rfl, hd⟩, q⟩
theorem w_isXT {n : String} {b : Bool} (h : LE.isB K D (.type n) b = true) (hd : H dd = some (.xd fs)) (q : Q (.bl b) H) : rIsX K D a (some dd) [.ref a, .ty n] H Q := ⟨.ty n, .type n, b, rfl, .ty n, of_decide_eq_true h, .inr ⟨dd, fs, rfl, hd⟩, q⟩
theorem Gr.xd {T : List (Addr × Str)} {H H' : Hp} {p : Addr} {fs : List (Str × V)} (g : Gr T H H') (h : H p = some (.xd fs)) : H' p = some (.xd fs) := g.keep p _ h fun _ z => by cases z
end
/-! ### a comprehension while an exception is handled -/
section
variable {K : PySem.W.Frag} {T : List (Addr × Str)} {σ : L2.St} {H H1 : Hp} {Q : VK} {tl : TE} {g : TG} {tt : TT} {te : TE} {vs : List Nat}
def LcH (K : PySem.W.Frag) (g : TG) (tt : TT) (te : TE) (vs : List Nat) (σ : L2.St) (Q : VK) (x : V) (H1 : Hp) : Prop := ∃ a, x = .ref a ∧ (∃ xs, SqL K H1 a xs) ∧ Lc (Itl K a) g tt te vs σ Q H1
theorem w_lcH (h : tl σ H fun x H1 => LcH K g tt te vs σ Q x H1) : tLc (iList K tl) g tt te vs σ H Q := h
/-- pairs (text, bool) -/
def IsSB (K : PySem.W.Frag) (H : Hp) (x : V) (q : Str × Bool) : Prop := ∃ p, x = .ref p ∧ SqT K H p [.str q.1, .bl q.2]
def SbAll (K : PySem.W.Frag) (H : Hp) : List V → List (Str × Bool) → Prop := Paired (IsSB K H)
theorem Gr.sb {H H' : Hp} {x : V} {q : Str × Bool} (g : Gr T H H') (h : IsSB K H x q) : IsSB K H' x q := by
  obtain ⟨p, e, hs⟩ := h
  exact ⟨p, e, g.sqT hs⟩
theorem Gr.sbs {H H' : Hp} (g : Gr T H H') : ∀ {xs : List V} {qs : List (Str × Bool)}, SbAll K H xs qs → SbAll K H' xs qs
  | _, _, .nil => .nil
  | _, _, .cons a b => .cons (g.sb a) (Gr.sbs g b)
theorem SbAll.get {H : Hp} : ∀ {xs : List V} {qs : List (Str × Bool)} {i : Nat} {x : V}, SbAll K H xs qs → xs[i]? = some x → ∃ q, qs[i]? = some q ∧ IsSB K H x q
  | _, _, _, _, .nil, e => by simp at e
  | _, _, 0, _, .cons r _, e => by
    simp at e
    subst e
    exact ⟨_, rfl, r⟩
  | _, _, i + 1, x, .cons _ t, e => by
    obtain ⟨q, h1, h2⟩ := SbAll.get (i := i) (x := x) t (by simpa using e)
    exact ⟨q, by simpa using h1, h2⟩
theorem lc_SB {a : Addr} {xs : List V} {qs : List (Str × Bool)} {j j2 : Nat} (hs : SqL K H1 a xs) (hp : SbAll K H1 xs qs) (f : Str × Bool → Bool) (v : Str × Bool → V) (hz : qs.length ≤ 100000) (hw : ∀ x y, wipe (((wipe σ vs).set j (some x)).set j2 (some y)) vs = wipe σ vs)
    (hst : ∀ q ∈ qs, ∀ H2, Gr T H1 H2 → Turn1 T tt te (((wipe σ vs).set j (some (.str q.1))).set j2 (some (.bl q.2))) H2 (f q) (v q))
    (fin : ∀ D H3, Gr T H1 H3 → H1 D = none → H3 D = some (.lst ((qs.filter f).map v)) → Q (.ref D) H3) :
    LcH K (gTup K 2 (gCons (gName j) (gCons (gName j2) gNil))) tt te vs σ Q (.ref a) H1 := by
  have hlen : xs.length = qs.length := Paired.length hp
  refine ⟨a, rfl, ⟨xs, hs⟩, lcG (T := T) (yl_list hs) (by rw [hlen]; exact hz) (fun i => (qs[i]?).elim false f) (fun i => (qs[i]?).elim .non v) (fun i x H2 R hi gr e k => ?_) (fun D H3 g3 hD h3 => fin D H3 g3 hD (by rw [h3, hlen, given_opt]))⟩
  obtain ⟨q, hq, hp2⟩ := hp.get e
  obtain ⟨p, rfl, hp3⟩ := gr.sb hp2
  refine ⟨p, _, rfl, hp3, rfl, _, _, rfl, _, _, rfl, rfl, k _ (hw _ _) ?_⟩
  rw [hq]
  exact hst q (List.mem_of_getElem? hq) H2 gr
end
end U
end
section
set_option Elab.async false
set_option linter.all false
set_option maxRecDepth 100000
set_option maxHeartbeats 4000000
/-! heaps around a call that pins the frame's cells, and around a lambda's run -/
namespace U
open PySem PySem.Spec PyProof.Rows L2 LamX Evl LV NdefX
section
variable {K : PySem.W.Frag} {T : List (Addr × Str)} {H1 H2 H3 H4 H' : Hp} {cs : List Addr} {p : Addr} {xs : List V}
theorem pin_ext (c : Addr) (o : Obj) : ∃ φ, Pin c o = .ext φ := ⟨_, rfl⟩
theorem pin_lst {c : Addr} {o : Obj} {xs : List V} : Pin c o ≠ .lst xs := fun z => by
  obtain ⟨φ, e⟩ := pin_ext c o
  rw [e] at z
  cases z
theorem pin_tup {c : Addr} {o : Obj} {xs : List V} : Pin c o ≠ .tup xs := fun z => by
  obtain ⟨φ, e⟩ := pin_ext c o
  rw [e] at z
  cases z
theorem pin_frz {c : Addr} {o o' : Obj} {u : HO} : Pin c o ≠ .frz o' u := fun z => by
  obtain ⟨φ, e⟩ := pin_ext c o
  rw [e] at z
  cases z
theorem pin_tbl {c : Addr} {o : Obj} {ps : Array Value} : Pin c o ≠ .tbl ps := fun z => by
  obtain ⟨φ, e⟩ := pin_ext c o
  rw [e] at z
  cases z
/-- what stands in H1 stands in H2: lists, tuples -/
theorem sqL_to (h : SqL K H1 p xs) (k : ∀ o, H1 p = some o → (∀ φ, o ≠ .ext φ) → H2 p = some o) : SqL K H2 p xs := by
  rcases h with (h | ⟨o, h⟩) | h
  · exact .inl (.inl (k _ h fun _ z => by cases z))
  · exact .inl (.inr ⟨o, k _ h fun _ z => by cases z⟩)
  · exact .inr h
theorem sqT_to (h : SqT K H1 p xs) (k : ∀ o, H1 p = some o → (∀ φ, o ≠ .ext φ) → H2 p = some o) : SqT K H2 p xs := by
  rcases h with (h | ⟨o, h⟩) | h
  · exact .inl (.inl (k _ h fun _ z => by cases z))
  · exact .inl (.inr ⟨o, k _ h fun _ z => by cases z⟩)
  · exact .inr h
theorem Sq.to (h : Sq K H1 p xs) (k : ∀ o, H1 p = some o → (∀ φ, o ≠ .ext φ) → H2 p = some o) : Sq K H2 p xs := h.elim (fun z => .inl (sqL_to z k)) fun z => .inr (sqT_to z k)
theorem Kd.to {x : V} (h : Kd K H1 x) (k : ∀ b o, H1 b = some o → (∀ φ, o ≠ .ext φ) → H2 b = some o) : Kd K H2 x := by
  cases h with
  | int i => exact .int i
  | bl b => exact .bl b
  | str s => exact .str s
  | non => exact .non
  | lst h => exact .lst (sqL_to h (k _))
  | tup h => exact .tup (sqT_to h (k _))
/-- into the call: all that is tracked stands -/
theorem pinR_to (r : PinR H1 H2) : ∀ b o, H1 b = some o → H2 b = some o := fun b o e => by
  rcases r b with z | ⟨n, _⟩
  · rw [z]; exact e
  · rw [e] at n; cases n
/-- into the lambda: all but ext -/
theorem mix_to (hp : ∀ c ∈ cs, ∃ o, H2 c = some (Pin c o)) : ∀ b o, H2 b = some o → (∀ φ, o ≠ .ext φ) → mix cs HN H2 b = some o := fun b o e n => by
  by_cases z : b ∈ cs
  · obtain ⟨o', e'⟩ := hp b z
    rw [e] at e'
    obtain ⟨φ, e2⟩ := pin_ext b o'
    exact absurd ((Option.some.inj e').trans e2) (n φ)
  · rw [mix_out z]; exact e
/-- out of it: all -/
theorem mix_from (hf : ∀ c ∈ cs, H' c = none) : ∀ b o, H' b = some o → mix cs H2 H' b = some o := fun b o e => by
  by_cases z : b ∈ cs
  · rw [hf b z] at e; cases e
  · rw [mix_out z]; exact e
theorem gr_out (hp : ∀ c ∈ cs, ∃ o, H2 c = some (Pin c o)) (hn : ∀ c ∈ cs, ∀ q, H2 c ≠ some (CodeO c q)) (hf : ∀ c ∈ cs, H' c = none) (g : Gr T (mix cs HN H2) H') : Gr T H2 (mix cs H2 H') := by
  refine ⟨fun b o e n => ?_, fun b e => ?_, fun t => ?_⟩
  · by_cases z : b ∈ cs
    · rw [mix_in z]; exact e
    · rw [mix_out z]
      exact g.keep b o (by rw [mix_out z]; exact e) n
  · by_cases z : b ∈ cs
    · rw [mix_in z] at e; exact e
    · rw [mix_out z] at e
      have := g.free b e
      rw [mix_out z] at this
      exact this
  · have t1 : Tabs T (mix cs HN H2) := fun p hp2 => by
      obtain ⟨ps, a1, a2, a3⟩ := t p hp2
      refine ⟨ps, mix_to hp _ _ a1 (fun φ z => by cases z), a2, fun pos cv hc => ?_⟩
      obtain ⟨c, e1, e2⟩ := a3 pos cv hc
      refine ⟨c, e1, ?_⟩
      rw [mix_out (fun z => hn c z _ e2)]
      exact e2
    exact (g.tabs t1).ext fun b o e => mix_from hf b o e
/-- behind the call -/
theorem gr_unpin (r : PinR H1 H2) (g : Gr T H2 H3) (u : UnpR H1 H2 H3 H4) (k : CodeK H3 H4) : Gr T H1 H4 := by
  refine ⟨fun b o e n => ?_, fun b e => ?_, fun t => ?_⟩
  · have e3 := g.keep b o (pinR_to r b o e) n
    rcases u b with z | ⟨_, n1, _⟩
    · rw [z]; exact e3
    · rw [e] at n1; cases n1
  · rcases u b with z | ⟨_, n1, _⟩
    · rw [z] at e
      have n2 := g.free b e
      rcases r b with y | ⟨y, _⟩
      · rw [← y]; exact n2
      · exact y
    · exact n1
  · have t2 : Tabs T H2 := t.ext fun b o e => pinR_to r b o e
    have t3 := g.tabs t2
    intro p hp
    obtain ⟨ps0, b1, _⟩ := t p hp
    obtain ⟨ps, a1, a2, a3⟩ := t3 p hp
    refine ⟨ps, ?_, a2, fun pos cv hc => ?_⟩
    · rcases u p.1 with z | ⟨_, n1, _⟩
      · rw [z]; exact a1
      · rw [b1] at n1; cases n1
    · obtain ⟨c, e1, e2⟩ := a3 pos cv hc
      exact ⟨c, e1, k _ _ e2⟩
theorem kept_of (g : Gr T H2 H3) : Kept H1 H2 H3 := fun b o _ e => g.keep b _ e fun _ z => pin_tbl z
theorem unp_to (g : Gr T H2 H3) (u : UnpR H1 H2 H3 H4) : ∀ b o, H3 b = some o → (∀ φ, o ≠ .ext φ) → H4 b = some o := fun b o e n => by
  rcases u b with z | ⟨_, _, o', e'⟩
  · rw [z]; exact e
  · have := g.keep b _ e' fun _ z => pin_tbl z
    rw [e] at this
    obtain ⟨φ, e2⟩ := pin_ext b o'
    exact absurd ((Option.some.inj this).trans e2) (n φ)
end
end U
end
section
set_option Elab.async false
set_option linter.all false
set_option maxRecDepth 100000
set_option maxHeartbeats 4000000
/-! printed by gen/gen.py: each def, its term and its rule -/
namespace K20
open PySem PySem.Spec PyProof.Rows L2 LamX U
/-- what the top has written, by names -/
structure Glob (K : PySem.W.Frag) (mg : Str → Option Value) : Prop where
  g_ask_text : mg "ask_text" = some (.ref (He.ga K "ask_text"))
  g_ask_cells : mg "ask_cells" = some (.ref (He.ga K "ask_cells"))
  g_ten_to : mg "ten_to" = some (.ref (He.ga K "ten_to"))
  g_is_digits : mg "is_digits" = some (.ref (He.ga K "is_digits"))
  g_whole_of : mg "whole_of" = some (.ref (He.ga K "whole_of"))
  g_is_whole : mg "is_whole" = some (.ref (He.ga K "is_whole"))
  g_ask_row_texts : mg "ask_row_texts" = some (.ref (He.ga K "ask_row_texts"))
  g_ask_site : mg "ask_site" = some (.ref (He.ga K "ask_site"))
  g_word_worth : mg "word_worth" = some (.ref (He.ga K "word_worth"))
  g_wrong_row : mg "wrong_row" = some (.ref (He.ga K "wrong_row"))
  g_rows_of : mg "rows_of" = some (.ref (He.ga K "rows_of"))
  g_first_gaps : mg "first_gaps" = some (.ref (He.ga K "first_gaps"))
  g_rows_of_gaps : mg "rows_of_gaps" = some (.ref (He.ga K "rows_of_gaps"))
  g_site_falls : mg "site_falls" = some (.ref (He.ga K "site_falls"))
  g_turn_rows : mg "turn_rows" = some (.ref (He.ga K "turn_rows"))
  g_read_shape : mg "read_shape" = some (.ref (He.ga K "read_shape"))
  g_falling : mg "falling" = some (.ref (He.ga K "falling"))
  g_gaps : mg "gaps" = some (.ref (He.ga K "gaps"))
  g_turned : mg "turned" = some (.ref (He.ga K "turned"))
  g_hooks : mg "hooks" = some (.ref (He.ga K "hooks"))
  g_core : mg "core" = some (.ref (He.ga K "core"))
  g__law_bag : mg "_law_bag" = some (.ref (He.ga K "_law_bag"))
  g__law_draw : mg "_law_draw" = some (.ref (He.ga K "_law_draw"))
  g__law_pick : mg "_law_pick" = some (.ref (He.ga K "_law_pick"))
  g__law_reach : mg "_law_reach" = some (.ref (He.ga K "_law_reach"))
  g__law_whole : mg "_law_whole" = some (.ref (He.ga K "_law_whole"))
  g__law_like : mg "_law_like" = some (.ref (He.ga K "_law_like"))
  g__law_marks : mg "_law_marks" = some (.ref (He.ga K "_law_marks"))
  g__law_fault : mg "_law_fault" = some (.ref (He.ga K "_law_fault"))
  g__law_tried : mg "_law_tried" = some (.ref (He.ga K "_law_tried"))
  g__law_refuses : mg "_law_refuses" = some (.ref (He.ga K "_law_refuses"))
  g__law_cells_of : mg "_law_cells_of" = some (.ref (He.ga K "_law_cells_of"))
  g__law_columns : mg "_law_columns" = some (.ref (He.ga K "_law_columns"))
  g__law_cleaned : mg "_law_cleaned" = some (.ref (He.ga K "_law_cleaned"))
  g__law_strips : mg "_law_strips" = some (.ref (He.ga K "_law_strips"))
  g__law_is_gap : mg "_law_is_gap" = some (.ref (He.ga K "_law_is_gap"))
  g__law_stair : mg "_law_stair" = some (.ref (He.ga K "_law_stair"))
  g__law_stair_in : mg "_law_stair_in" = some (.ref (He.ga K "_law_stair_in"))
  g__law_bent_stair : mg "_law_bent_stair" = some (.ref (He.ga K "_law_bent_stair"))
  g__law_spot : mg "_law_spot" = some (.ref (He.ga K "_law_spot"))
  g__law_core_of : mg "_law_core_of" = some (.ref (He.ga K "_law_core_of"))
  g__law_hooks_walked : mg "_law_hooks_walked" = some (.ref (He.ga K "_law_hooks_walked"))
  g__law_parts_told : mg "_law_parts_told" = some (.ref (He.ga K "_law_parts_told"))
  g__law_sites_told : mg "_law_sites_told" = some (.ref (He.ga K "_law_sites_told"))
  g__law_faults_told : mg "_law_faults_told" = some (.ref (He.ga K "_law_faults_told"))
  g_law : mg "law" = some (.ref (He.ga K "law"))
  g_Refused : mg "Refused" = some (.ref (He.ga K "Refused"))
  g_BadNumber : mg "BadNumber" = some (.ref (He.ga K "BadNumber"))
  g_BadSum : mg "BadSum" = some (.ref (He.ga K "BadSum"))
  g_BadQuotient : mg "BadQuotient" = some (.ref (He.ga K "BadQuotient"))
  g_BadLandscape : mg "BadLandscape" = some (.ref (He.ga K "BadLandscape"))
  g_BadWell : mg "BadWell" = some (.ref (He.ga K "BadWell"))
  g_BadWall : mg "BadWall" = some (.ref (He.ga K "BadWall"))
  g_BadShape : mg "BadShape" = some (.ref (He.ga K "BadShape"))
  g_BadRoll : mg "BadRoll" = some (.ref (He.ga K "BadRoll"))
  g_BadOperator : mg "BadOperator" = some (.ref (He.ga K "BadOperator"))
  g_BadSymbol : mg "BadSymbol" = some (.ref (He.ga K "BadSymbol"))
  g_BadStep : mg "BadStep" = some (.ref (He.ga K "BadStep"))
  g_BadPaper : mg "BadPaper" = some (.ref (He.ga K "BadPaper"))
  g_BadName : mg "BadName" = some (.ref (He.ga K "BadName"))
  g_BadScript : mg "BadScript" = some (.ref (He.ga K "BadScript"))
  g_Barred : mg "Barred" = some (.ref (He.ga K "Barred"))
  g_Unlike : mg "Unlike" = some (.ref (He.ga K "Unlike"))
  g_HasResidue : mg "HasResidue" = some (.ref (He.ga K "HasResidue"))
  g_NotKept : mg "NotKept" = some (.ref (He.ga K "NotKept"))
  g_TooMany : mg "TooMany" = some (.ref (He.ga K "TooMany"))
  g_NoSuch : mg "NoSuch" = some (.ref (He.ga K "NoSuch"))
  g_Ended : mg "Ended" = some (.ref (He.ga K "Ended"))
  i_MOST_TEXT : ∃ t, mg "MOST_TEXT" = some (.int 60000 t)
  i_MOST_CELLS : ∃ t, mg "MOST_CELLS" = some (.int 30 t)
  i_CHUNK : ∃ t, mg "CHUNK" = some (.int 1000 t)
  i_MOST_SITE : ∃ t, mg "MOST_SITE" = some (.int 60 t)
  z_FIGURES : ∃ t, mg "FIGURES" = some (.str "0123456789" t)
  b_LookupError : mg "LookupError" = none
  b_RuntimeError : mg "RuntimeError" = none
  b_ValueError : mg "ValueError" = none
  b_abs : mg "abs" = none
  b_bool : mg "bool" = none
  b_enumerate : mg "enumerate" = none
  b_int : mg "int" = none
  b_isinstance : mg "isinstance" = none
  b_len : mg "len" = none
  b_list : mg "list" = none
  b_max : mg "max" = none
  b_min : mg "min" = none
  b_range : mg "range" = none
  b_sorted : mg "sorted" = none
  b_str : mg "str" = none
  b_sum : mg "sum" = none
  b_tuple : mg "tuple" = none
section
variable {P : Program} {w : World} {K : PySem.W.Frag} {mg : Str → Option Value} {base : Heap}
theorem sc_ask_text : FnScope ["count"] ["count"] (defScope s_ask_text) := ⟨rfl, rfl, rfl, by decide +kernel, rfl, by decide +kernel, by decide +kernel⟩
def t_ask_text (K : PySem.W.Frag) (E : XK) : TS := (tIfS (tTest (tOp qGt (tVar 0) (tC (.int 60000)))) (tRaise (He.ga K "TooMany") ["what", "count"] (fun cls d _ H => E cls d H) (tCons (tC (.str "text")) (tCons (tVar 0) tNil))) tNext)
theorem fn_ask_text (G : Glob K mg) {fdI_TooMany : FuncData} (O_TooMany : LE.Own K (He.ga K "TooMany")) (I_TooMany : FnOk P w K mg base (L2N.CX P w) 1 (He.ma K (He.ga K "TooMany") "__init__") fdI_TooMany ["self", "what", "count"] (spI (He.ga K "TooMany") ["what", "count"])) (J_TooMany : Binds K fdI_TooMany ["self", "what", "count"] []) {fd : FuncData} (F : FunD K "ask_text" "ask_text" (defArgs s_ask_text) (defBody s_ask_text) (defScope s_ask_text) [] [] (He.ga K "ask_text") fd) {sp : Sp} (len : ∀ vs H Q E, sp vs H Q E → vs.length = 1)
    (rd : ∀ vs H Q E, sp vs H Q E → t_ask_text K E { nx := fun _ H' => Q .non H', rt := Q } (start ["count"] vs) H) : Has P w K mg base "ask_text" 3 ["count"] sp := by
  have nd := (sc_ask_text).nd
  refine ⟨G.g_ask_text, F.kp, fd, F.ok sc_ask_text len (fun cdv A outer s H vs Q E hr h => ⟨t_ask_text K E, ?_, rd vs H Q E h⟩), F.bindsN fun _ _ _ _ _ _ us hl => match us, hl with | [_], _ => rfl⟩
  have tk := L2N.takes_of (X := cxOf (L2N.CX P w) P w K mg base ["count"] "ask_text" (defScope s_ask_text) (He.ga K "ask_text") cdv A outer s H E) (E := E) rfl rfl rfl rfl
  exact (pss_one (ps_if (pt_cmpR op_gt (pv 0) (pe_gint (by rfl) G.i_MOST_TEXT) (by rfl)) (pss_one (ps_raiseU rfl tk (O_TooMany) I_TooMany J_TooMany hr (by decide) (by rfl) G.g_TooMany (by decide) (mono_cons (by first | exact mono_var | exact mono_c | exact mono_abs (mono_cons mono_var mono_nil)) (mono_cons (by first | exact mono_var | exact mono_c | exact mono_abs (mono_cons mono_var mono_nil)) mono_nil)) (pa_cons pe_str (pa_cons (pv 0) pa_nil)))) pss_nil))
theorem sc_ask_cells : FnScope ["count"] ["count"] (defScope s_ask_cells) := ⟨rfl, rfl, rfl, by decide +kernel, rfl, by decide +kernel, by decide +kernel⟩
def t_ask_cells (K : PySem.W.Frag) (E : XK) : TS := (tIfS (tTest (tOp qGt (tVar 0) (tC (.int 30)))) (tRaise (He.ga K "TooMany") ["what", "count"] (fun cls d _ H => E cls d H) (tCons (tC (.str "cells")) (tCons (tVar 0) tNil))) tNext)
theorem fn_ask_cells (G : Glob K mg) {fdI_TooMany : FuncData} (O_TooMany : LE.Own K (He.ga K "TooMany")) (I_TooMany : FnOk P w K mg base (L2N.CX P w) 1 (He.ma K (He.ga K "TooMany") "__init__") fdI_TooMany ["self", "what", "count"] (spI (He.ga K "TooMany") ["what", "count"])) (J_TooMany : Binds K fdI_TooMany ["self", "what", "count"] []) {fd : FuncData} (F : FunD K "ask_cells" "ask_cells" (defArgs s_ask_cells) (defBody s_ask_cells) (defScope s_ask_cells) [] [] (He.ga K "ask_cells") fd) {sp : Sp} (len : ∀ vs H Q E, sp vs H Q E → vs.length = 1)
    (rd : ∀ vs H Q E, sp vs H Q E → t_ask_cells K E { nx := fun _ H' => Q .non H', rt := Q } (start ["count"] vs) H) : Has P w K mg base "ask_cells" 3 ["count"] sp := by
  have nd := (sc_ask_cells).nd
  refine ⟨G.g_ask_cells, F.kp, fd, F.ok sc_ask_cells len (fun cdv A outer s H vs Q E hr h => ⟨t_ask_cells K E, ?_, rd vs H Q E h⟩), F.bindsN fun _ _ _ _ _ _ us hl => match us, hl with | [_], _ => rfl⟩
  have tk := L2N.takes_of (X := cxOf (L2N.CX P w) P w K mg base ["count"] "ask_cells" (defScope s_ask_cells) (He.ga K "ask_cells") cdv A outer s H E) (E := E) rfl rfl rfl rfl
  exact (pss_one (ps_if (pt_cmpR op_gt (pv 0) (pe_gint (by rfl) G.i_MOST_CELLS) (by rfl)) (pss_one (ps_raiseU rfl tk (O_TooMany) I_TooMany J_TooMany hr (by decide) (by rfl) G.g_TooMany (by decide) (mono_cons (by first | exact mono_var | exact mono_c | exact mono_abs (mono_cons mono_var mono_nil)) (mono_cons (by first | exact mono_var | exact mono_c | exact mono_abs (mono_cons mono_var mono_nil)) mono_nil)) (pa_cons pe_str (pa_cons (pv 0) pa_nil)))) pss_nil))
theorem sc_is_digits : FnScope ["text", "sign"] ["text"] (defScope s_is_digits) := ⟨rfl, rfl, rfl, by decide +kernel, rfl, by decide +kernel, by decide +kernel⟩
def t_is_digits (K : PySem.W.Frag) : TS := (tSeq (tIfS (tTest (tOp (uEq K) (tVar 0) (tC (.str "")))) (tRet (tC (.bl false))) tNext)
  (tSeq (tFor (iStr (tVar 0)) (gName 1) (tIfS (tTest (tOp (uIn K true) (tVar 1) (tC (.str "0123456789")))) (tRet (tC (.bl false))) tNext))
  (tRet (tOrV (tOp (uEq K) (tVar 0) (tC (.str "0"))) (tOp (uNe K) (tOp (uIx K) (tVar 0) (tC (.int 0))) (tC (.str "0")))))))
theorem fn_is_digits (G : Glob K mg) {fd : FuncData} (F : FunD K "is_digits" "is_digits" (defArgs s_is_digits) (defBody s_is_digits) (defScope s_is_digits) [] [] (He.ga K "is_digits") fd) {sp : Sp} (len : ∀ vs H Q E, sp vs H Q E → vs.length = 1)
    (rd : ∀ vs H Q E, sp vs H Q E → t_is_digits K { nx := fun _ H' => Q .non H', rt := Q } (start ["text", "sign"] vs) H) : Has P w K mg base "is_digits" 1 ["text"] sp := by
  have nd := (sc_is_digits).nd
  refine ⟨G.g_is_digits, F.kp, fd, F.ok sc_is_digits len (fun cdv A outer s H vs Q E hr h => ⟨t_is_digits K, ?_, rd vs H Q E h⟩), F.bindsN fun _ _ _ _ _ _ us hl => match us, hl with | [_], _ => rfl⟩
  refine PSs.nox ?_
  exact (pss_cons (ps_if (pt_cmpR (op_uEq hr.units) (pv 0) pe_str (by rfl)) (pss_one (ps_ret pe_bl)) pss_nil)
      (pss_cons (ps_for PassesOwn.never rfl (pi_str (pv 0)) (pg_name (i := 1) nd rfl (by first | exact Or.inl rfl | exact Or.inr rfl) (by first | exact Or.inl rfl | exact Or.inr rfl)) (pss_one (ps_if (pt_cmpR op_uNotIn (pv 1) (pe_gstr (by rfl) G.z_FIGURES) (by rfl)) (pss_one (ps_ret pe_bl)) pss_nil)))
      (pss_one (ps_ret (pe_or (pe_cmpR (op_uEq hr.units) (pv 0) pe_str (by rfl)) (pe_one (pe_cmpR (op_uNe hr.units) (pe_ix ix_u (pv 0) pe_int (fun _ _ => rfl)) pe_str (by rfl))))))))
theorem sc_whole_of : FnScope ["text", "first", "value", "step", "at"] ["text"] (defScope s_whole_of) := ⟨rfl, rfl, rfl, by decide +kernel, rfl, by decide +kernel, by decide +kernel⟩
def t_whole_of (K : PySem.W.Frag) : TS := (tSeq (tIfS (tTest (tOp qLe (tCB (uLen K) (tCons (tVar 0) tNil)) (tC (.int 1000)))) (tRet (tCB (uInt) (tCons (tVar 0) tNil))) tNext)
  tNever)
theorem fn_whole_of (G : Glob K mg) {fd : FuncData} (F : FunD K "whole_of" "whole_of" (defArgs s_whole_of) (defBody s_whole_of) (defScope s_whole_of) [] [] (He.ga K "whole_of") fd) {sp : Sp} (len : ∀ vs H Q E, sp vs H Q E → vs.length = 1)
    (rd : ∀ vs H Q E, sp vs H Q E → t_whole_of K { nx := fun _ H' => Q .non H', rt := Q } (start ["text", "first", "value", "step", "at"] vs) H) : Has P w K mg base "whole_of" 1 ["text"] sp := by
  have nd := (sc_whole_of).nd
  refine ⟨G.g_whole_of, F.kp, fd, F.ok sc_whole_of len (fun cdv A outer s H vs Q E hr h => ⟨t_whole_of K, ?_, rd vs H Q E h⟩), F.bindsN fun _ _ _ _ _ _ us hl => match us, hl with | [_], _ => rfl⟩
  refine PSs.nox ?_
  exact (pss_cons (ps_if (pt_cmpR op_le (pe_callB cr_len (by rfl) G.b_len (by first | rfl | kernel_rfl) (pa_cons (pv 0) pa_nil)) (pe_gint (by rfl) G.i_CHUNK) (by rfl)) (pss_one (ps_ret (pe_callTy U.cr_int (by rfl) G.b_int (by first | rfl | kernel_rfl) (pa_cons (pv 0) pa_nil)))) pss_nil)
      pss_never)
theorem sc_is_whole : FnScope ["thing"] ["thing"] (defScope s_is_whole) := ⟨rfl, rfl, rfl, by decide +kernel, rfl, by decide +kernel, by decide +kernel⟩
def t_is_whole (K : PySem.W.Frag) : TS := (tRet (tAndV (tCB (rIsi K) (tCons (tVar 0) (tCons (tC (.ty "int")) tNil))) (tNotV (tCB (rIsi K) (tCons (tVar 0) (tCons (tC (.ty "bool")) tNil))))))
theorem fn_is_whole (G : Glob K mg) {fd : FuncData} (F : FunD K "is_whole" "is_whole" (defArgs s_is_whole) (defBody s_is_whole) (defScope s_is_whole) [] [] (He.ga K "is_whole") fd) {sp : Sp} (len : ∀ vs H Q E, sp vs H Q E → vs.length = 1)
    (rd : ∀ vs H Q E, sp vs H Q E → t_is_whole K { nx := fun _ H' => Q .non H', rt := Q } (start ["thing"] vs) H) : Has P w K mg base "is_whole" 1 ["thing"] sp := by
  have nd := (sc_is_whole).nd
  refine ⟨G.g_is_whole, F.kp, fd, F.ok sc_is_whole len (fun cdv A outer s H vs Q E hr h => ⟨t_is_whole K, ?_, rd vs H Q E h⟩), F.bindsN fun _ _ _ _ _ _ us hl => match us, hl with | [_], _ => rfl⟩
  refine PSs.nox ?_
  exact (pss_one (ps_ret (pe_and (pe_callB call_isi (by rfl) G.b_isinstance (by first | rfl | kernel_rfl) (pa_cons (pv 0) (pa_cons (pe_bltn (v := .ty "int") (by rfl) G.b_int (by first | rfl | kernel_rfl) rfl) pa_nil))) (pe_one (pe_not (pe_callB call_isi (by rfl) G.b_isinstance (by first | rfl | kernel_rfl) (pa_cons (pv 0) (pa_cons (pe_bltn (v := .ty "bool") (by rfl) G.b_bool (by first | rfl | kernel_rfl) rfl) pa_nil))))))))
theorem sc_ask_row_texts : FnScope ["things", "thing"] ["things"] (defScope s_ask_row_texts) := ⟨rfl, rfl, rfl, by decide +kernel, rfl, by decide +kernel, by decide +kernel⟩
def t_ask_row_texts (K : PySem.W.Frag) (sp_ask_text : Sp) (E : XK) : TS := (tDrop (tCall sp_ask_text [] E (tCons (tCKw (rMaxDf K) (tCons (tLc (iSeq K (tVar 0)) (gName 1) (L2.tB (tCB (rIsi K) (tCons (tVar 1) (tCons (tC (.ty "str")) tNil)))) (tCB (uLen K) (tCons (tVar 1) tNil)) [1]) tNil) (tCons (tC (.int 0)) tNil)) tNil)))
theorem fn_ask_row_texts (G : Glob K mg) {sp_ask_text : Sp} (h_ask_text : Has P w K mg base "ask_text" 3 ["count"] sp_ask_text) {fd : FuncData} (F : FunD K "ask_row_texts" "ask_row_texts" (defArgs s_ask_row_texts) (defBody s_ask_row_texts) (defScope s_ask_row_texts) [] [] (He.ga K "ask_row_texts") fd) {sp : Sp} (len : ∀ vs H Q E, sp vs H Q E → vs.length = 1)
    (rd : ∀ vs H Q E, sp vs H Q E → t_ask_row_texts K sp_ask_text E { nx := fun _ H' => Q .non H', rt := Q } (start ["things", "thing"] vs) H) : Has P w K mg base "ask_row_texts" 4 ["things"] sp := by
  have nd := (sc_ask_row_texts).nd
  refine ⟨G.g_ask_row_texts, F.kp, fd, F.ok sc_ask_row_texts len (fun cdv A outer s H vs Q E hr h => ⟨t_ask_row_texts K sp_ask_text E, ?_, rd vs H Q E h⟩), F.bindsN fun _ _ _ _ _ _ us hl => match us, hl with | [_], _ => rfl⟩
  have tk := L2N.takes_of (X := cxOf (L2N.CX P w) P w K mg base ["things", "thing"] "ask_row_texts" (defScope s_ask_row_texts) (He.ga K "ask_row_texts") cdv A outer s H E) (E := E) rfl rfl rfl rfl
  exact (pss_one (ps_expr (pe_callU h_ask_text hr (by decide) (by rfl) (L2N.passes_call tk fun _ _ _ _ h => h) (pa_cons (pe_callBK (cr_maxD rfl hr.units) (by rfl) G.b_max (by first | rfl | kernel_rfl) (pa_cons (pe_lc (own := [("thing", 1)]) rfl nd (pi_seq (pv 0)) (blkOk_by (own := [("thing", 1)]) (by first | decide +kernel | rfl)) (fun _ _ _ _ _ => (pg_name (i := 1) nd rfl (by first | exact Or.inl rfl | exact Or.inr rfl) (by first | exact Or.inl rfl | exact Or.inr rfl))) (fun _ _ _ _ _ => (pts_one (pt_val (pe_callB call_isi (by rfl) G.b_isinstance (by first | rfl | kernel_rfl) (pa_cons (pv 1) (pa_cons (pe_bltn (v := .ty "str") (by rfl) G.b_str (by first | rfl | kernel_rfl) rfl) pa_nil)))))) (fun _ _ _ _ _ => (pe_callB cr_len (by rfl) G.b_len (by first | rfl | kernel_rfl) (pa_cons (pv 1) pa_nil)))) pa_nil) (pk_cons pe_int pk_nil)) pa_nil))))
theorem sc_ask_site : FnScope ["site"] ["site"] (defScope s_ask_site) := ⟨rfl, rfl, rfl, by decide +kernel, rfl, by decide +kernel, by decide +kernel⟩
def t_ask_site (K : PySem.W.Frag) (E : XK) : TS := (tIfS (tTest (tOp qGt (tCB (uAbs) (tCons (tVar 0) tNil)) (tC (.int 60)))) (tRaise (He.ga K "TooMany") ["what", "count"] (fun cls d _ H => E cls d H) (tCons (tC (.str "site")) (tCons (tCB (uAbs) (tCons (tVar 0) tNil)) tNil))) tNext)
theorem fn_ask_site (G : Glob K mg) {fdI_TooMany : FuncData} (O_TooMany : LE.Own K (He.ga K "TooMany")) (I_TooMany : FnOk P w K mg base (L2N.CX P w) 1 (He.ma K (He.ga K "TooMany") "__init__") fdI_TooMany ["self", "what", "count"] (spI (He.ga K "TooMany") ["what", "count"])) (J_TooMany : Binds K fdI_TooMany ["self", "what", "count"] []) {fd : FuncData} (F : FunD K "ask_site" "ask_site" (defArgs s_ask_site) (defBody s_ask_site) (defScope s_ask_site) [] [] (He.ga K "ask_site") fd) {sp : Sp} (len : ∀ vs H Q E, sp vs H Q E → vs.length = 1)
    (rd : ∀ vs H Q E, sp vs H Q E → t_ask_site K E { nx := fun _ H' => Q .non H', rt := Q } (start ["site"] vs) H) : Has P w K mg base "ask_site" 3 ["site"] sp := by
  have nd := (sc_ask_site).nd
  refine ⟨G.g_ask_site, F.kp, fd, F.ok sc_ask_site len (fun cdv A outer s H vs Q E hr h => ⟨t_ask_site K E, ?_, rd vs H Q E h⟩), F.bindsN fun _ _ _ _ _ _ us hl => match us, hl with | [_], _ => rfl⟩
  have tk := L2N.takes_of (X := cxOf (L2N.CX P w) P w K mg base ["site"] "ask_site" (defScope s_ask_site) (He.ga K "ask_site") cdv A outer s H E) (E := E) rfl rfl rfl rfl
  exact (pss_one (ps_if (pt_cmpR op_gt (pe_callB U.cr_abs (by rfl) G.b_abs (by first | rfl | kernel_rfl) (pa_cons (pv 0) pa_nil)) (pe_gint (by rfl) G.i_MOST_SITE) (by rfl)) (pss_one (ps_raiseU rfl tk (O_TooMany) I_TooMany J_TooMany hr (by decide) (by rfl) G.g_TooMany (by decide) (mono_cons (by first | exact mono_var | exact mono_c | exact mono_abs (mono_cons mono_var mono_nil)) (mono_cons (by first | exact mono_var | exact mono_c | exact mono_abs (mono_cons mono_var mono_nil)) mono_nil)) (pa_cons pe_str (pa_cons (pe_callB U.cr_abs (by rfl) G.b_abs (by first | rfl | kernel_rfl) (pa_cons (pv 0) pa_nil)) pa_nil)))) pss_nil))
theorem sc_word_worth : FnScope ["word"] ["word"] (defScope s_word_worth) := ⟨rfl, rfl, rfl, by decide +kernel, rfl, by decide +kernel, by decide +kernel⟩
def t_word_worth (K : PySem.W.Frag) (sp_is_digits : Sp) (sp_whole_of : Sp) : TS := (tRet (tIf (L2.tB (tCall sp_is_digits [] E0 (tCons (tVar 0) tNil))) (tCall sp_whole_of [] E0 (tCons (tVar 0) tNil)) (tVar 0)))
theorem fn_word_worth (G : Glob K mg) {sp_is_digits : Sp} (h_is_digits : Has P w K mg base "is_digits" 1 ["text"] sp_is_digits) {sp_whole_of : Sp} (h_whole_of : Has P w K mg base "whole_of" 1 ["text"] sp_whole_of) {fd : FuncData} (F : FunD K "word_worth" "word_worth" (defArgs s_word_worth) (defBody s_word_worth) (defScope s_word_worth) [] [] (He.ga K "word_worth") fd) {sp : Sp} (len : ∀ vs H Q E, sp vs H Q E → vs.length = 1)
    (rd : ∀ vs H Q E, sp vs H Q E → t_word_worth K sp_is_digits sp_whole_of { nx := fun _ H' => Q .non H', rt := Q } (start ["word"] vs) H) : Has P w K mg base "word_worth" 2 ["word"] sp := by
  have nd := (sc_word_worth).nd
  refine ⟨G.g_word_worth, F.kp, fd, F.ok sc_word_worth len (fun cdv A outer s H vs Q E hr h => ⟨t_word_worth K sp_is_digits sp_whole_of, ?_, rd vs H Q E h⟩), F.bindsN fun _ _ _ _ _ _ us hl => match us, hl with | [_], _ => rfl⟩
  refine PSs.nox ?_
  exact (pss_one (ps_ret (pe_ifExp (pt_val (pe_callU h_is_digits hr (by decide) (by rfl) passN (pa_cons (pv 0) pa_nil))) (pe_callU h_whole_of hr (by decide) (by rfl) passN (pa_cons (pv 0) pa_nil)) (pv 0))))
theorem sc_wrong_row : FnScope ["rows", "ahead", "at", "row"] ["rows"] (defScope s_wrong_row) := ⟨rfl, rfl, rfl, by decide +kernel, rfl, by decide +kernel, by decide +kernel⟩
def t_wrong_row (K : PySem.W.Frag) (sp_is_whole : Sp) : TS := (tSeq (tAsg (tC .non) (gName 1))
  (tSeq (tFor (iEnum K (tCons (tVar 0) tNil)) (gTup K 2 (gCons (gName 2) (gCons (gName 3) gNil))) (tSeq (tIfS (tOr (tNot (L2.tB (tCall sp_is_whole [] E0 (tCons (tVar 3) tNil)))) (tTest (tOp qLt (tVar 3) (tC (.int 1))))) (tRet (tVar 2)) tNext)
  (tSeq (tIfS (tAnd (tTest (tOp rNotN (tVar 1) (tC .non))) (tTest (tOp qGt (tVar 3) (tVar 1)))) (tRet (tVar 2)) tNext)
  (tAsg (tVar 3) (gName 1)))))
  (tRet (tC .non))))
theorem fn_wrong_row (G : Glob K mg) {sp_is_whole : Sp} (h_is_whole : Has P w K mg base "is_whole" 1 ["thing"] sp_is_whole) {fd : FuncData} (F : FunD K "wrong_row" "wrong_row" (defArgs s_wrong_row) (defBody s_wrong_row) (defScope s_wrong_row) [] [] (He.ga K "wrong_row") fd) {sp : Sp} (len : ∀ vs H Q E, sp vs H Q E → vs.length = 1)
    (rd : ∀ vs H Q E, sp vs H Q E → t_wrong_row K sp_is_whole { nx := fun _ H' => Q .non H', rt := Q } (start ["rows", "ahead", "at", "row"] vs) H) : Has P w K mg base "wrong_row" 2 ["rows"] sp := by
  have nd := (sc_wrong_row).nd
  refine ⟨G.g_wrong_row, F.kp, fd, F.ok sc_wrong_row len (fun cdv A outer s H vs Q E hr h => ⟨t_wrong_row K sp_is_whole, ?_, rd vs H Q E h⟩), F.bindsN fun _ _ _ _ _ _ us hl => match us, hl with | [_], _ => rfl⟩
  refine PSs.nox ?_
  exact (pss_cons (ps_set (i := 1) nd rfl (by first | exact Or.inl rfl | exact Or.inr rfl) pe_non)
      (pss_cons (ps_for PassesOwn.never rfl (pi_enum (by rfl) G.b_enumerate (pa_cons (pv 0) pa_nil)) (pg_tup rfl (pgs_cons (pg_name (i := 2) nd rfl (by first | exact Or.inl rfl | exact Or.inr rfl) (by first | exact Or.inl rfl | exact Or.inr rfl)) (pgs_cons (pg_name (i := 3) nd rfl (by first | exact Or.inl rfl | exact Or.inr rfl) (by first | exact Or.inl rfl | exact Or.inr rfl)) pgs_nil))) (pss_cons (ps_if ((pw_or (pt_not (pt_val (pe_callU h_is_whole hr (by decide) (by rfl) passN (pa_cons (pv 3) pa_nil)))) (pw_or1 (pt_cmpR op_lt (pv 3) pe_int (by rfl))))).pt (pss_one (ps_ret (pv 2))) pss_nil)
      (pss_cons (ps_if ((pw_and (pt_cmpR op_notN1 (pv 1) pe_non (by rfl)) (pw_and1 (pt_cmpR op_gt (pv 3) (pv 1) (by rfl))))).pt (pss_one (ps_ret (pv 2))) pss_nil)
      (pss_one (ps_set (i := 1) nd rfl (by first | exact Or.inl rfl | exact Or.inr rfl) (pv 3))))))
      (pss_one (ps_ret pe_non))))
theorem sc_rows_of : FnScope ["thing", "wrong", "rows", "word"] ["thing"] (defScope s_rows_of) := ⟨rfl, rfl, rfl, by decide +kernel, rfl, by decide +kernel, by decide +kernel⟩
def t_rows_of (K : PySem.W.Frag) (sp_ask_text : Sp) (sp_word_worth : Sp) (sp_ask_row_texts : Sp) (sp_wrong_row : Sp) (E : XK) : TS := (tSeq (tIfS (L2.tB (tCB (rIsi K) (tCons (tVar 0) (tCons (tC (.ty "str")) tNil)))) (tSeq (tDrop (tCall sp_ask_text [] E (tCons (tCB (uLen K) (tCons (tVar 0) tNil)) tNil)))
  (tSeq (tIfS (tTest (tOp (uEq K) (tVar 0) (tC (.str "bare")))) (tRet (tTup tNil)) tNext)
  (tAsg (tLc (iSeq K (tM1 qSplit (tVar 0) (tC (.str " ")))) (gName 3) tYes (tCall sp_word_worth [] E0 (tCons (tVar 3) tNil)) [3]) (gName 2)))) (tIfS (L2.tB (tCB (rIsiT K) (tCons (tVar 0) (tCons (tTup (tCons (tC (.ty "list")) (tCons (tC (.ty "tuple")) tNil))) tNil)))) (tSeq (tDrop (tCall sp_ask_row_texts [] E (tCons (tVar 0) tNil)))
  (tAsg (tCB (uList K) (tCons (tVar 0) tNil)) (gName 2))) (tRaise (He.ga K "BadShape") ["at"] (fun cls d _ H => E cls d H) (tCons (tC (.int 0)) tNil))))
  (tSeq (tAsg (tCall sp_wrong_row [] E (tCons (tVar 2) tNil)) (gName 1))
  (tSeq (tIfS (tTest (tOp rNotN (tVar 1) (tC .non))) (tRaise (He.ga K "BadShape") ["at"] (fun cls d _ H => E cls d H) (tCons (tVar 1) tNil)) tNext)
  (tRet (tCB (uTup K) (tCons (tVar 2) tNil))))))
theorem fn_rows_of (G : Glob K mg) {sp_ask_text : Sp} (h_ask_text : Has P w K mg base "ask_text" 3 ["count"] sp_ask_text) {sp_word_worth : Sp} (h_word_worth : Has P w K mg base "word_worth" 2 ["word"] sp_word_worth) {sp_ask_row_texts : Sp} (h_ask_row_texts : Has P w K mg base "ask_row_texts" 4 ["things"] sp_ask_row_texts) {sp_wrong_row : Sp} (h_wrong_row : Has P w K mg base "wrong_row" 2 ["rows"] sp_wrong_row) {fdI_BadShape : FuncData} (O_BadShape : LE.Own K (He.ga K "BadShape")) (I_BadShape : FnOk P w K mg base (L2N.CX P w) 1 (He.ma K (He.ga K "BadShape") "__init__") fdI_BadShape ["self", "at"] (spI (He.ga K "BadShape") ["at"])) (J_BadShape : Binds K fdI_BadShape ["self", "at"] []) {fd : FuncData} (F : FunD K "rows_of" "rows_of" (defArgs s_rows_of) (defBody s_rows_of) (defScope s_rows_of) [] [] (He.ga K "rows_of") fd) {sp : Sp} (len : ∀ vs H Q E, sp vs H Q E → vs.length = 1)
    (rd : ∀ vs H Q E, sp vs H Q E → t_rows_of K sp_ask_text sp_word_worth sp_ask_row_texts sp_wrong_row E { nx := fun _ H' => Q .non H', rt := Q } (start ["thing", "wrong", "rows", "word"] vs) H) : Has P w K mg base "rows_of" 5 ["thing"] sp := by
  have nd := (sc_rows_of).nd
  refine ⟨G.g_rows_of, F.kp, fd, F.ok sc_rows_of len (fun cdv A outer s H vs Q E hr h => ⟨t_rows_of K sp_ask_text sp_word_worth sp_ask_row_texts sp_wrong_row E, ?_, rd vs H Q E h⟩), F.bindsN fun _ _ _ _ _ _ us hl => match us, hl with | [_], _ => rfl⟩
  have tk := L2N.takes_of (X := cxOf (L2N.CX P w) P w K mg base ["thing", "wrong", "rows", "word"] "rows_of" (defScope s_rows_of) (He.ga K "rows_of") cdv A outer s H E) (E := E) rfl rfl rfl rfl
  exact (pss_cons (ps_if (pt_val (pe_callB call_isi (by rfl) G.b_isinstance (by first | rfl | kernel_rfl) (pa_cons (pv 0) (pa_cons (pe_bltn (v := .ty "str") (by rfl) G.b_str (by first | rfl | kernel_rfl) rfl) pa_nil)))) (pss_cons (ps_expr (pe_callU h_ask_text hr (by decide) (by rfl) (L2N.passes_call tk fun _ _ _ _ h => h) (pa_cons (pe_callB cr_len (by rfl) G.b_len (by first | rfl | kernel_rfl) (pa_cons (pv 0) pa_nil)) pa_nil)))
      (pss_cons (ps_if (pt_cmpR (op_uEq hr.units) (pv 0) pe_str (by rfl)) (pss_one (ps_ret (pe_tup pa_nil))) pss_nil)
      (pss_one (by first | exact (ps_setLc (i := 2) (own := [("word", 3)]) rfl nd rfl rfl (sw_true rfl rfl rfl (by decide +kernel)) (pi_seq (pe_split (pv 0) pe_str)) (blkOk_by (own := [("word", 3)]) (by first | decide +kernel | rfl)) (fun _ _ _ _ _ => (pg_name (i := 3) nd rfl (by first | exact Or.inl rfl | exact Or.inr rfl) (by first | exact Or.inl rfl | exact Or.inr rfl))) (fun _ _ _ _ _ => pts_nil) (fun _ _ _ _ _ => (pe_callU h_word_worth hr (by decide) (by rfl) passN (pa_cons (pv 3) pa_nil)))) | exact (ps_set (i := 2) nd rfl (by first | exact Or.inl rfl | exact Or.inr rfl) (pe_lc (own := [("word", 3)]) rfl nd (pi_seq (pe_split (pv 0) pe_str)) (blkOk_by (own := [("word", 3)]) (by first | decide +kernel | rfl)) (fun _ _ _ _ _ => (pg_name (i := 3) nd rfl (by first | exact Or.inl rfl | exact Or.inr rfl) (by first | exact Or.inl rfl | exact Or.inr rfl))) (fun _ _ _ _ _ => pts_nil) (fun _ _ _ _ _ => (pe_callU h_word_worth hr (by decide) (by rfl) passN (pa_cons (pv 3) pa_nil))))))))) (pss_one (ps_if (pt_val (pe_callB call_isiT (by rfl) G.b_isinstance (by first | rfl | kernel_rfl) (pa_cons (pv 0) (pa_cons (pe_tup (pa_cons (pe_bltn (v := .ty "list") (by rfl) G.b_list (by first | rfl | kernel_rfl) rfl) (pa_cons (pe_bltn (v := .ty "tuple") (by rfl) G.b_tuple (by first | rfl | kernel_rfl) rfl) pa_nil))) pa_nil)))) (pss_cons (ps_expr (pe_callU h_ask_row_texts hr (by decide) (by rfl) (L2N.passes_call tk fun _ _ _ _ h => h) (pa_cons (pv 0) pa_nil)))
      (pss_one (ps_set (i := 2) nd rfl (by first | exact Or.inl rfl | exact Or.inr rfl) (pe_callTy U.cr_list (by rfl) G.b_list (by first | rfl | kernel_rfl) (pa_cons (pv 0) pa_nil))))) (pss_one (ps_raiseU rfl tk (O_BadShape) I_BadShape J_BadShape hr (by decide) (by rfl) G.g_BadShape (by decide) (mono_cons (by first | exact mono_var | exact mono_c | exact mono_abs (mono_cons mono_var mono_nil)) mono_nil) (pa_cons pe_int pa_nil))))))
      (pss_cons (ps_set (i := 1) nd rfl (by first | exact Or.inl rfl | exact Or.inr rfl) (pe_callU h_wrong_row hr (by decide) (by rfl) (L2N.passes_call tk fun _ _ _ _ h => h) (pa_cons (pv 2) pa_nil)))
      (pss_cons (ps_if (pt_cmpR op_notN1 (pv 1) pe_non (by rfl)) (pss_one (ps_raiseU rfl tk (O_BadShape) I_BadShape J_BadShape hr (by decide) (by rfl) G.g_BadShape (by decide) (mono_cons (by first | exact mono_var | exact mono_c | exact mono_abs (mono_cons mono_var mono_nil)) mono_nil) (pa_cons (pv 1) pa_nil))) pss_nil)
      (pss_one (ps_ret (pe_callTy U.cr_tuple (by rfl) G.b_tuple (by first | rfl | kernel_rfl) (pa_cons (pv 2) pa_nil)))))))
theorem sc_first_gaps : FnScope ["rows", "many", "lengths", "at", "length"] ["rows", "many"] (defScope s_first_gaps) := ⟨rfl, rfl, rfl, by decide +kernel, rfl, by decide +kernel, by decide +kernel⟩
def t_first_gaps (K : PySem.W.Frag) : TS := (tSeq (tAsg (tOp (uAdd K) (tCB (uList K) (tCons (tVar 0) tNil)) (tOp uMul (tLst (tCons (tC (.int 0)) tNil)) (tOp qSub (tVar 1) (tCB (uLen K) (tCons (tVar 0) tNil))))) (gName 2))
  (tRet (tLc (iEnum K (tCons (tVar 2) tNil)) (gTup K 2 (gCons (gName 3) (gCons (gName 4) gNil))) tYes (tOp qSub (tOp qSub (tVar 4) (tVar 3)) (tC (.int 1))) [3, 4])))
theorem fn_first_gaps (G : Glob K mg) {fd : FuncData} (F : FunD K "first_gaps" "first_gaps" (defArgs s_first_gaps) (defBody s_first_gaps) (defScope s_first_gaps) [] [] (He.ga K "first_gaps") fd) {sp : Sp} (len : ∀ vs H Q E, sp vs H Q E → vs.length = 2)
    (rd : ∀ vs H Q E, sp vs H Q E → t_first_gaps K { nx := fun _ H' => Q .non H', rt := Q } (start ["rows", "many", "lengths", "at", "length"] vs) H) : Has P w K mg base "first_gaps" 1 ["rows", "many"] sp := by
  have nd := (sc_first_gaps).nd
  refine ⟨G.g_first_gaps, F.kp, fd, F.ok sc_first_gaps len (fun cdv A outer s H vs Q E hr h => ⟨t_first_gaps K, ?_, rd vs H Q E h⟩), F.bindsN fun _ _ _ _ _ _ us hl => match us, hl with | [_, _], _ => rfl⟩
  refine PSs.nox ?_
  exact (pss_cons (ps_set (i := 2) nd rfl (by first | exact Or.inl rfl | exact Or.inr rfl) (pe_op op_uAdd (pe_callTy U.cr_list (by rfl) G.b_list (by first | rfl | kernel_rfl) (pa_cons (pv 0) pa_nil)) (pe_op op_uMul (pe_lst (pa_cons pe_int pa_nil)) (pe_op op_sub (pv 1) (pe_callB cr_len (by rfl) G.b_len (by first | rfl | kernel_rfl) (pa_cons (pv 0) pa_nil))))))
      (pss_one (ps_ret (pe_lc (own := [("at", 3), ("length", 4)]) rfl nd (pi_enum (by rfl) G.b_enumerate (pa_cons (pv 2) pa_nil)) (blkOk_by (own := [("at", 3), ("length", 4)]) (by first | decide +kernel | rfl)) (fun _ _ _ _ _ => (pg_tup rfl (pgs_cons (pg_name (i := 3) nd rfl (by first | exact Or.inl rfl | exact Or.inr rfl) (by first | exact Or.inl rfl | exact Or.inr rfl)) (pgs_cons (pg_name (i := 4) nd rfl (by first | exact Or.inl rfl | exact Or.inr rfl) (by first | exact Or.inl rfl | exact Or.inr rfl)) pgs_nil)))) (fun _ _ _ _ _ => pts_nil) (fun _ _ _ _ _ => (pe_op op_sub (pe_op op_sub (pv 4) (pv 3)) pe_int))))))
theorem sc_rows_of_gaps : FnScope ["row", "lengths", "at", "gap", "length"] ["row"] (defScope s_rows_of_gaps) := ⟨rfl, rfl, rfl, by decide +kernel, rfl, by decide +kernel, by decide +kernel⟩
def t_rows_of_gaps (K : PySem.W.Frag) : TS := (tSeq (tAsg (tLc (iEnum K (tCons (tVar 0) tNil)) (gTup K 2 (gCons (gName 2) (gCons (gName 3) gNil))) tYes (tOp (uAdd K) (tOp (uAdd K) (tVar 3) (tVar 2)) (tC (.int 1))) [2, 3]) (gName 1))
  (tRet (tCB (uTup K) (tCons (tLc (iSeq K (tVar 1)) (gName 4) (tTest (tOp qGt (tVar 4) (tC (.int 0)))) (tVar 4) [4]) tNil))))
theorem fn_rows_of_gaps (G : Glob K mg) {fd : FuncData} (F : FunD K "rows_of_gaps" "rows_of_gaps" (defArgs s_rows_of_gaps) (defBody s_rows_of_gaps) (defScope s_rows_of_gaps) [] [] (He.ga K "rows_of_gaps") fd) {sp : Sp} (len : ∀ vs H Q E, sp vs H Q E → vs.length = 1)
    (rd : ∀ vs H Q E, sp vs H Q E → t_rows_of_gaps K { nx := fun _ H' => Q .non H', rt := Q } (start ["row", "lengths", "at", "gap", "length"] vs) H) : Has P w K mg base "rows_of_gaps" 1 ["row"] sp := by
  have nd := (sc_rows_of_gaps).nd
  refine ⟨G.g_rows_of_gaps, F.kp, fd, F.ok sc_rows_of_gaps len (fun cdv A outer s H vs Q E hr h => ⟨t_rows_of_gaps K, ?_, rd vs H Q E h⟩), F.bindsN fun _ _ _ _ _ _ us hl => match us, hl with | [_], _ => rfl⟩
  refine PSs.nox ?_
  exact (pss_cons (by first | exact (ps_setLc (i := 1) (own := [("at", 2), ("gap", 3)]) rfl nd rfl rfl (sw_true rfl rfl rfl (by decide +kernel)) (pi_enum (by rfl) G.b_enumerate (pa_cons (pv 0) pa_nil)) (blkOk_by (own := [("at", 2), ("gap", 3)]) (by first | decide +kernel | rfl)) (fun _ _ _ _ _ => (pg_tup rfl (pgs_cons (pg_name (i := 2) nd rfl (by first | exact Or.inl rfl | exact Or.inr rfl) (by first | exact Or.inl rfl | exact Or.inr rfl)) (pgs_cons (pg_name (i := 3) nd rfl (by first | exact Or.inl rfl | exact Or.inr rfl) (by first | exact Or.inl rfl | exact Or.inr rfl)) pgs_nil)))) (fun _ _ _ _ _ => pts_nil) (fun _ _ _ _ _ => (pe_op op_uAdd (pe_op op_uAdd (pv 3) (pv 2)) pe_int))) | exact (ps_set (i := 1) nd rfl (by first | exact Or.inl rfl | exact Or.inr rfl) (pe_lc (own := [("at", 2), ("gap", 3)]) rfl nd (pi_enum (by rfl) G.b_enumerate (pa_cons (pv 0) pa_nil)) (blkOk_by (own := [("at", 2), ("gap", 3)]) (by first | decide +kernel | rfl)) (fun _ _ _ _ _ => (pg_tup rfl (pgs_cons (pg_name (i := 2) nd rfl (by first | exact Or.inl rfl | exact Or.inr rfl) (by first | exact Or.inl rfl | exact Or.inr rfl)) (pgs_cons (pg_name (i := 3) nd rfl (by first | exact Or.inl rfl | exact Or.inr rfl) (by first | exact Or.inl rfl | exact Or.inr rfl)) pgs_nil)))) (fun _ _ _ _ _ => pts_nil) (fun _ _ _ _ _ => (pe_op op_uAdd (pe_op op_uAdd (pv 3) (pv 2)) pe_int)))))
      (pss_one (ps_ret (pe_callTy U.cr_tuple (by rfl) G.b_tuple (by first | rfl | kernel_rfl) (pa_cons (pe_lc (own := [("length", 4)]) rfl nd (pi_seq (pv 1)) (blkOk_by (own := [("length", 4)]) (by first | decide +kernel | rfl)) (fun _ _ _ _ _ => (pg_name (i := 4) nd rfl (by first | exact Or.inl rfl | exact Or.inr rfl) (by first | exact Or.inl rfl | exact Or.inr rfl))) (fun _ _ _ _ _ => (pts_one (pt_cmpR op_gt (pv 4) pe_int (by rfl)))) (fun _ _ _ _ _ => (pv 4))) pa_nil)))))
theorem sc_site_falls : FnScope ["rows", "site"] ["rows", "site"] (defScope s_site_falls) := ⟨rfl, rfl, rfl, by decide +kernel, rfl, by decide +kernel, by decide +kernel⟩
def t_site_falls (K : PySem.W.Frag) (sp_first_gaps : Sp) : TS := (tSeq (tIfS (tTest (tOp qLt (tVar 1) (tUn qNeg (tCB (uLen K) (tCons (tVar 0) tNil))))) (tRet (tC (.bl false))) tNext)
  (tRet (tOp (uIn K true) (tVar 1) (tCall sp_first_gaps [] E0 (tCons (tVar 0) (tCons (tCB (uLen K) (tCons (tVar 0) tNil)) tNil))))))
theorem fn_site_falls (G : Glob K mg) {sp_first_gaps : Sp} (h_first_gaps : Has P w K mg base "first_gaps" 1 ["rows", "many"] sp_first_gaps) {fd : FuncData} (F : FunD K "site_falls" "site_falls" (defArgs s_site_falls) (defBody s_site_falls) (defScope s_site_falls) [] [] (He.ga K "site_falls") fd) {sp : Sp} (len : ∀ vs H Q E, sp vs H Q E → vs.length = 2)
    (rd : ∀ vs H Q E, sp vs H Q E → t_site_falls K sp_first_gaps { nx := fun _ H' => Q .non H', rt := Q } (start ["rows", "site"] vs) H) : Has P w K mg base "site_falls" 2 ["rows", "site"] sp := by
  have nd := (sc_site_falls).nd
  refine ⟨G.g_site_falls, F.kp, fd, F.ok sc_site_falls len (fun cdv A outer s H vs Q E hr h => ⟨t_site_falls K sp_first_gaps, ?_, rd vs H Q E h⟩), F.bindsN fun _ _ _ _ _ _ us hl => match us, hl with | [_, _], _ => rfl⟩
  refine PSs.nox ?_
  exact (pss_cons (ps_if (pt_cmpR op_lt (pv 1) (pe_un un_neg (pe_callB cr_len (by rfl) G.b_len (by first | rfl | kernel_rfl) (pa_cons (pv 0) pa_nil))) (by rfl)) (pss_one (ps_ret pe_bl)) pss_nil)
      (pss_one (ps_ret (pe_cmpR op_uNotIn (pv 1) (pe_callU h_first_gaps hr (by decide) (by rfl) passN (pa_cons (pv 0) (pa_cons (pe_callB cr_len (by rfl) G.b_len (by first | rfl | kernel_rfl) (pa_cons (pv 0) pa_nil)) pa_nil))) (by rfl)))))
theorem sc_turn_rows : FnScope ["rows", "widest", "at", "row"] ["rows"] (defScope s_turn_rows) := ⟨rfl, rfl, rfl, by decide +kernel, rfl, by decide +kernel, by decide +kernel⟩
def t_turn_rows (K : PySem.W.Frag) : TS := (tSeq (tAsg (tIf (tTr K (tVar 0)) (tOp (uIx K) (tVar 0) (tC (.int 0))) (tC (.int 0))) (gName 1))
  (tRet (tCB (uTup K) (tCons (tLc (iRng1 (tCons (tVar 1) tNil)) (gName 2) tYes (tCB (uLen K) (tCons (tLc (iSeq K (tVar 0)) (gName 3) (tTest (tOp qGt (tVar 3) (tVar 2))) (tVar 3) [3]) tNil)) [2]) tNil))))
theorem fn_turn_rows (G : Glob K mg) {fd : FuncData} (F : FunD K "turn_rows" "turn_rows" (defArgs s_turn_rows) (defBody s_turn_rows) (defScope s_turn_rows) [] [] (He.ga K "turn_rows") fd) {sp : Sp} (len : ∀ vs H Q E, sp vs H Q E → vs.length = 1)
    (rd : ∀ vs H Q E, sp vs H Q E → t_turn_rows K { nx := fun _ H' => Q .non H', rt := Q } (start ["rows", "widest", "at", "row"] vs) H) : Has P w K mg base "turn_rows" 1 ["rows"] sp := by
  have nd := (sc_turn_rows).nd
  refine ⟨G.g_turn_rows, F.kp, fd, F.ok sc_turn_rows len (fun cdv A outer s H vs Q E hr h => ⟨t_turn_rows K, ?_, rd vs H Q E h⟩), F.bindsN fun _ _ _ _ _ _ us hl => match us, hl with | [_], _ => rfl⟩
  refine PSs.nox ?_
  exact (pss_cons (ps_set (i := 1) nd rfl (by first | exact Or.inl rfl | exact Or.inr rfl) (pe_ifExp (pt_tr (pv 0)) (pe_ix ix_u (pv 0) pe_int (fun _ _ => rfl)) pe_int))
      (pss_one (ps_ret (pe_callTy U.cr_tuple (by rfl) G.b_tuple (by first | rfl | kernel_rfl) (pa_cons (pe_lc (own := [("at", 2)]) rfl nd (pi_range1 (by rfl) G.b_range (pa_cons (pv 1) pa_nil)) (blkOk_by (own := [("at", 2)]) (by first | decide +kernel | rfl)) (fun _ _ _ _ _ => (pg_name (i := 2) nd rfl (by first | exact Or.inl rfl | exact Or.inr rfl) (by first | exact Or.inl rfl | exact Or.inr rfl))) (fun _ _ _ _ _ => pts_nil) (fun _ _ _ _ _ => (pe_callB cr_len (by rfl) G.b_len (by first | rfl | kernel_rfl) (pa_cons (pe_lc (own := [("row", 3)]) rfl nd (pi_seq (pv 0)) (blkOk_by (own := [("row", 3)]) (by first | decide +kernel | rfl)) (fun _ _ _ _ _ => (pg_name (i := 3) nd rfl (by first | exact Or.inl rfl | exact Or.inr rfl) (by first | exact Or.inl rfl | exact Or.inr rfl))) (fun _ _ _ _ _ => (pts_one (pt_cmpR op_gt (pv 3) (pv 2) (by rfl)))) (fun _ _ _ _ _ => (pv 3))) pa_nil)))) pa_nil)))))
theorem sc_read_shape : FnScope ["thing", "rows"] ["thing"] (defScope s_read_shape) := ⟨rfl, rfl, rfl, by decide +kernel, rfl, by decide +kernel, by decide +kernel⟩
def t_read_shape (K : PySem.W.Frag) (sp_rows_of : Sp) (sp_ask_cells : Sp) (E : XK) : TS := (tSeq (tAsg (tCall sp_rows_of [] E (tCons (tVar 0) tNil)) (gName 1))
  (tSeq (tDrop (tCall sp_ask_cells [] E (tCons (tCB (uSum K) (tCons (tVar 1) tNil)) tNil)))
  (tRet (tVar 1))))
theorem fn_read_shape (G : Glob K mg) {sp_rows_of : Sp} (h_rows_of : Has P w K mg base "rows_of" 5 ["thing"] sp_rows_of) {sp_ask_cells : Sp} (h_ask_cells : Has P w K mg base "ask_cells" 3 ["count"] sp_ask_cells) {fd : FuncData} (F : FunD K "read_shape" "read_shape" (defArgs s_read_shape) (defBody s_read_shape) (defScope s_read_shape) [] [] (He.ga K "read_shape") fd) {sp : Sp} (len : ∀ vs H Q E, sp vs H Q E → vs.length = 1)
    (rd : ∀ vs H Q E, sp vs H Q E → t_read_shape K sp_rows_of sp_ask_cells E { nx := fun _ H' => Q .non H', rt := Q } (start ["thing", "rows"] vs) H) : Has P w K mg base "read_shape" 6 ["thing"] sp := by
  have nd := (sc_read_shape).nd
  refine ⟨G.g_read_shape, F.kp, fd, F.ok sc_read_shape len (fun cdv A outer s H vs Q E hr h => ⟨t_read_shape K sp_rows_of sp_ask_cells E, ?_, rd vs H Q E h⟩), F.bindsN fun _ _ _ _ _ _ us hl => match us, hl with | [_], _ => rfl⟩
  have tk := L2N.takes_of (X := cxOf (L2N.CX P w) P w K mg base ["thing", "rows"] "read_shape" (defScope s_read_shape) (He.ga K "read_shape") cdv A outer s H E) (E := E) rfl rfl rfl rfl
  exact (pss_cons (ps_set (i := 1) nd rfl (by first | exact Or.inl rfl | exact Or.inr rfl) (pe_callU h_rows_of hr (by decide) (by rfl) (L2N.passes_call tk fun _ _ _ _ h => h) (pa_cons (pv 0) pa_nil)))
      (pss_cons (ps_expr (pe_callU h_ask_cells hr (by decide) (by rfl) (L2N.passes_call tk fun _ _ _ _ h => h) (pa_cons (pe_callB (U.cr_sum rfl) (by rfl) G.b_sum (by first | rfl | kernel_rfl) (pa_cons (pv 1) pa_nil)) pa_nil)))
      (pss_one (ps_ret (pv 1)))))
theorem sc_falling : FnScope ["shape", "site", "rows"] ["shape", "site"] (defScope s_falling) := ⟨rfl, rfl, rfl, by decide +kernel, rfl, by decide +kernel, by decide +kernel⟩
def t_falling (K : PySem.W.Frag) (sp_rows_of : Sp) (sp_ask_site : Sp) (sp_ask_cells : Sp) (sp_site_falls : Sp) (E : XK) : TS := (tSeq (tAsg (tCall sp_rows_of [] E (tCons (tVar 0) tNil)) (gName 2))
  (tSeq (tDrop (tCall sp_ask_site [] E (tCons (tVar 1) tNil)))
  (tSeq (tDrop (tCall sp_ask_cells [] E (tCons (tCB (uSum K) (tCons (tVar 2) tNil)) tNil)))
  (tRet (tCall sp_site_falls [] E (tCons (tVar 2) (tCons (tVar 1) tNil)))))))
theorem fn_falling (G : Glob K mg) {sp_rows_of : Sp} (h_rows_of : Has P w K mg base "rows_of" 5 ["thing"] sp_rows_of) {sp_ask_site : Sp} (h_ask_site : Has P w K mg base "ask_site" 3 ["site"] sp_ask_site) {sp_ask_cells : Sp} (h_ask_cells : Has P w K mg base "ask_cells" 3 ["count"] sp_ask_cells) {sp_site_falls : Sp} (h_site_falls : Has P w K mg base "site_falls" 2 ["rows", "site"] sp_site_falls) {fd : FuncData} (F : FunD K "falling" "falling" (defArgs s_falling) (defBody s_falling) (defScope s_falling) [] [] (He.ga K "falling") fd) {sp : Sp} (len : ∀ vs H Q E, sp vs H Q E → vs.length = 2)
    (rd : ∀ vs H Q E, sp vs H Q E → t_falling K sp_rows_of sp_ask_site sp_ask_cells sp_site_falls E { nx := fun _ H' => Q .non H', rt := Q } (start ["shape", "site", "rows"] vs) H) : Has P w K mg base "falling" 6 ["shape", "site"] sp := by
  have nd := (sc_falling).nd
  refine ⟨G.g_falling, F.kp, fd, F.ok sc_falling len (fun cdv A outer s H vs Q E hr h => ⟨t_falling K sp_rows_of sp_ask_site sp_ask_cells sp_site_falls E, ?_, rd vs H Q E h⟩), F.bindsN fun _ _ _ _ _ _ us hl => match us, hl with | [_, _], _ => rfl⟩
  have tk := L2N.takes_of (X := cxOf (L2N.CX P w) P w K mg base ["shape", "site", "rows"] "falling" (defScope s_falling) (He.ga K "falling") cdv A outer s H E) (E := E) rfl rfl rfl rfl
  exact (pss_cons (ps_set (i := 2) nd rfl (by first | exact Or.inl rfl | exact Or.inr rfl) (pe_callU h_rows_of hr (by decide) (by rfl) (L2N.passes_call tk fun _ _ _ _ h => h) (pa_cons (pv 0) pa_nil)))
      (pss_cons (ps_expr (pe_callU h_ask_site hr (by decide) (by rfl) (L2N.passes_call tk fun _ _ _ _ h => h) (pa_cons (pv 1) pa_nil)))
      (pss_cons (ps_expr (pe_callU h_ask_cells hr (by decide) (by rfl) (L2N.passes_call tk fun _ _ _ _ h => h) (pa_cons (pe_callB (U.cr_sum rfl) (by rfl) G.b_sum (by first | rfl | kernel_rfl) (pa_cons (pv 2) pa_nil)) pa_nil)))
      (pss_one (ps_ret (pe_callU h_site_falls hr (by decide) (by rfl) (L2N.passes_call tk fun _ _ _ _ h => h) (pa_cons (pv 2) (pa_cons (pv 1) pa_nil))))))))
theorem sc_gaps : FnScope ["shape", "low", "rows", "row", "site"] ["shape", "low"] (defScope s_gaps) := ⟨rfl, rfl, rfl, by decide +kernel, rfl, by decide +kernel, by decide +kernel⟩
def t_gaps (K : PySem.W.Frag) (sp_rows_of : Sp) (sp_ask_site : Sp) (sp_ask_cells : Sp) (sp_first_gaps : Sp) (E : XK) : TS := (tSeq (tAsg (tCall sp_rows_of [] E (tCons (tVar 0) tNil)) (gName 2))
  (tSeq (tDrop (tCall sp_ask_site [] E (tCons (tVar 1) tNil)))
  (tSeq (tDrop (tCall sp_ask_cells [] E (tCons (tCB (uSum K) (tCons (tVar 2) tNil)) tNil)))
  (tSeq (tAsg (tCall sp_first_gaps [] E (tCons (tVar 2) (tCons (tCB (uMax) (tCons (tCB (uLen K) (tCons (tVar 2) tNil)) (tCons (tUn qNeg (tVar 1)) tNil))) tNil))) (gName 3))
  (tRet (tLc (iSeq K (tRevL K (tVar 3))) (gName 4) (tTest (tOp qGe (tVar 4) (tVar 1))) (tVar 4) [4]))))))
theorem fn_gaps (G : Glob K mg) {sp_rows_of : Sp} (h_rows_of : Has P w K mg base "rows_of" 5 ["thing"] sp_rows_of) {sp_ask_site : Sp} (h_ask_site : Has P w K mg base "ask_site" 3 ["site"] sp_ask_site) {sp_ask_cells : Sp} (h_ask_cells : Has P w K mg base "ask_cells" 3 ["count"] sp_ask_cells) {sp_first_gaps : Sp} (h_first_gaps : Has P w K mg base "first_gaps" 1 ["rows", "many"] sp_first_gaps) {fd : FuncData} (F : FunD K "gaps" "gaps" (defArgs s_gaps) (defBody s_gaps) (defScope s_gaps) [] [] (He.ga K "gaps") fd) {sp : Sp} (len : ∀ vs H Q E, sp vs H Q E → vs.length = 2)
    (rd : ∀ vs H Q E, sp vs H Q E → t_gaps K sp_rows_of sp_ask_site sp_ask_cells sp_first_gaps E { nx := fun _ H' => Q .non H', rt := Q } (start ["shape", "low", "rows", "row", "site"] vs) H) : Has P w K mg base "gaps" 6 ["shape", "low"] sp := by
  have nd := (sc_gaps).nd
  refine ⟨G.g_gaps, F.kp, fd, F.ok sc_gaps len (fun cdv A outer s H vs Q E hr h => ⟨t_gaps K sp_rows_of sp_ask_site sp_ask_cells sp_first_gaps E, ?_, rd vs H Q E h⟩), F.bindsN fun _ _ _ _ _ _ us hl => match us, hl with | [_, _], _ => rfl⟩
  have tk := L2N.takes_of (X := cxOf (L2N.CX P w) P w K mg base ["shape", "low", "rows", "row", "site"] "gaps" (defScope s_gaps) (He.ga K "gaps") cdv A outer s H E) (E := E) rfl rfl rfl rfl
  exact (pss_cons (ps_set (i := 2) nd rfl (by first | exact Or.inl rfl | exact Or.inr rfl) (pe_callU h_rows_of hr (by decide) (by rfl) (L2N.passes_call tk fun _ _ _ _ h => h) (pa_cons (pv 0) pa_nil)))
      (pss_cons (ps_expr (pe_callU h_ask_site hr (by decide) (by rfl) (L2N.passes_call tk fun _ _ _ _ h => h) (pa_cons (pv 1) pa_nil)))
      (pss_cons (ps_expr (pe_callU h_ask_cells hr (by decide) (by rfl) (L2N.passes_call tk fun _ _ _ _ h => h) (pa_cons (pe_callB (U.cr_sum rfl) (by rfl) G.b_sum (by first | rfl | kernel_rfl) (pa_cons (pv 2) pa_nil)) pa_nil)))
      (pss_cons (ps_set (i := 3) nd rfl (by first | exact Or.inl rfl | exact Or.inr rfl) (pe_callU h_first_gaps hr (by decide) (by rfl) (L2N.passes_call tk fun _ _ _ _ h => h) (pa_cons (pv 2) (pa_cons (pe_callB (U.cr_max rfl) (by rfl) G.b_max (by first | rfl | kernel_rfl) (pa_cons (pe_callB cr_len (by rfl) G.b_len (by first | rfl | kernel_rfl) (pa_cons (pv 2) pa_nil)) (pa_cons (pe_un un_neg (pv 1)) pa_nil))) pa_nil))))
      (pss_one (ps_ret (pe_lc (own := [("site", 4)]) rfl nd (pi_seq (pe_revL (pv 3))) (blkOk_by (own := [("site", 4)]) (by first | decide +kernel | rfl)) (fun _ _ _ _ _ => (pg_name (i := 4) nd rfl (by first | exact Or.inl rfl | exact Or.inr rfl) (by first | exact Or.inl rfl | exact Or.inr rfl))) (fun _ _ _ _ _ => (pts_one (pt_cmpR op_ge (pv 4) (pv 1) (by rfl)))) (fun _ _ _ _ _ => (pv 4)))))))))
theorem sc_turned : FnScope ["shape"] ["shape"] (defScope s_turned) := ⟨rfl, rfl, rfl, by decide +kernel, rfl, by decide +kernel, by decide +kernel⟩
def t_turned (K : PySem.W.Frag) (sp_turn_rows : Sp) (sp_read_shape : Sp) (E : XK) : TS := (tRet (tCall sp_turn_rows [] E (tCons (tCall sp_read_shape [] E (tCons (tVar 0) tNil)) tNil)))
theorem fn_turned (G : Glob K mg) {sp_turn_rows : Sp} (h_turn_rows : Has P w K mg base "turn_rows" 1 ["rows"] sp_turn_rows) {sp_read_shape : Sp} (h_read_shape : Has P w K mg base "read_shape" 6 ["thing"] sp_read_shape) {fd : FuncData} (F : FunD K "turned" "turned" (defArgs s_turned) (defBody s_turned) (defScope s_turned) [] [] (He.ga K "turned") fd) {sp : Sp} (len : ∀ vs H Q E, sp vs H Q E → vs.length = 1)
    (rd : ∀ vs H Q E, sp vs H Q E → t_turned K sp_turn_rows sp_read_shape E { nx := fun _ H' => Q .non H', rt := Q } (start ["shape"] vs) H) : Has P w K mg base "turned" 7 ["shape"] sp := by
  have nd := (sc_turned).nd
  refine ⟨G.g_turned, F.kp, fd, F.ok sc_turned len (fun cdv A outer s H vs Q E hr h => ⟨t_turned K sp_turn_rows sp_read_shape E, ?_, rd vs H Q E h⟩), F.bindsN fun _ _ _ _ _ _ us hl => match us, hl with | [_], _ => rfl⟩
  have tk := L2N.takes_of (X := cxOf (L2N.CX P w) P w K mg base ["shape"] "turned" (defScope s_turned) (He.ga K "turned") cdv A outer s H E) (E := E) rfl rfl rfl rfl
  exact (pss_one (ps_ret (pe_callU h_turn_rows hr (by decide) (by rfl) (L2N.passes_call tk fun _ _ _ _ h => h) (pa_cons (pe_callU h_read_shape hr (by decide) (by rfl) (L2N.passes_call tk fun _ _ _ _ h => h) (pa_cons (pv 0) pa_nil)) pa_nil))))
theorem sc_hooks : FnScope ["shape", "rows", "columns", "found", "i", "row", "j", "right", "below"] ["shape"] (defScope s_hooks) := ⟨rfl, rfl, rfl, by decide +kernel, rfl, by decide +kernel, by decide +kernel⟩
def t_hooks (K : PySem.W.Frag) (sp_read_shape : Sp) (sp_turn_rows : Sp) (E : XK) : TS := (tSeq (tAsg (tCall sp_read_shape [] E (tCons (tVar 0) tNil)) (gName 1))
  (tSeq (tAsg (tCall sp_turn_rows [] E (tCons (tVar 1) tNil)) (gName 2))
  (tSeq (tAsg (tLst tNil) (gName 3))
  (tSeq (tFor (iEnum K (tCons (tVar 1) tNil)) (gTup K 2 (gCons (gName 4) (gCons (gName 5) gNil))) (tFor (iRng1 (tCons (tVar 5) tNil)) (gName 6) (tSeq (tAsg (tOp qSub (tOp qSub (tVar 5) (tVar 6)) (tC (.int 1))) (gName 7))
  (tSeq (tAsg (tOp qSub (tOp qSub (tOp (uIx K) (tVar 2) (tVar 6)) (tVar 4)) (tC (.int 1))) (gName 8))
  (tDrop (tBM K "list" rAppend (tVar 3) (tCons (tOp (uAdd K) (tOp (uAdd K) (tVar 7) (tVar 8)) (tC (.int 1))) tNil)))))))
  (tRet (tCB (rSortedI K) (tCons (tVar 3) tNil)))))))
theorem fn_hooks (G : Glob K mg) {sp_read_shape : Sp} (h_read_shape : Has P w K mg base "read_shape" 6 ["thing"] sp_read_shape) {sp_turn_rows : Sp} (h_turn_rows : Has P w K mg base "turn_rows" 1 ["rows"] sp_turn_rows) {fd : FuncData} (F : FunD K "hooks" "hooks" (defArgs s_hooks) (defBody s_hooks) (defScope s_hooks) [] [] (He.ga K "hooks") fd) {sp : Sp} (len : ∀ vs H Q E, sp vs H Q E → vs.length = 1)
    (rd : ∀ vs H Q E, sp vs H Q E → t_hooks K sp_read_shape sp_turn_rows E { nx := fun _ H' => Q .non H', rt := Q } (start ["shape", "rows", "columns", "found", "i", "row", "j", "right", "below"] vs) H) : Has P w K mg base "hooks" 7 ["shape"] sp := by
  have nd := (sc_hooks).nd
  refine ⟨G.g_hooks, F.kp, fd, F.ok sc_hooks len (fun cdv A outer s H vs Q E hr h => ⟨t_hooks K sp_read_shape sp_turn_rows E, ?_, rd vs H Q E h⟩), F.bindsN fun _ _ _ _ _ _ us hl => match us, hl with | [_], _ => rfl⟩
  have tk := L2N.takes_of (X := cxOf (L2N.CX P w) P w K mg base ["shape", "rows", "columns", "found", "i", "row", "j", "right", "below"] "hooks" (defScope s_hooks) (He.ga K "hooks") cdv A outer s H E) (E := E) rfl rfl rfl rfl
  exact (pss_cons (ps_set (i := 1) nd rfl (by first | exact Or.inl rfl | exact Or.inr rfl) (pe_callU h_read_shape hr (by decide) (by rfl) (L2N.passes_call tk fun _ _ _ _ h => h) (pa_cons (pv 0) pa_nil)))
      (pss_cons (ps_set (i := 2) nd rfl (by first | exact Or.inl rfl | exact Or.inr rfl) (pe_callU h_turn_rows hr (by decide) (by rfl) (L2N.passes_call tk fun _ _ _ _ h => h) (pa_cons (pv 1) pa_nil)))
      (pss_cons (ps_set (i := 3) nd rfl (by first | exact Or.inl rfl | exact Or.inr rfl) (pe_lst pa_nil))
      (pss_cons (ps_for (passes_of rfl) rfl (pi_enum (by rfl) G.b_enumerate (pa_cons (pv 1) pa_nil)) (pg_tup rfl (pgs_cons (pg_name (i := 4) nd rfl (by first | exact Or.inl rfl | exact Or.inr rfl) (by first | exact Or.inl rfl | exact Or.inr rfl)) (pgs_cons (pg_name (i := 5) nd rfl (by first | exact Or.inl rfl | exact Or.inr rfl) (by first | exact Or.inl rfl | exact Or.inr rfl)) pgs_nil))) (pss_one (ps_for (passes_of rfl) rfl (pi_range1 (by rfl) G.b_range (pa_cons (pv 5) pa_nil)) (pg_name (i := 6) nd rfl (by first | exact Or.inl rfl | exact Or.inr rfl) (by first | exact Or.inl rfl | exact Or.inr rfl)) (pss_cons (ps_set (i := 7) nd rfl (by first | exact Or.inl rfl | exact Or.inr rfl) (pe_op op_sub (pe_op op_sub (pv 5) (pv 6)) pe_int))
      (pss_cons (ps_set (i := 8) nd rfl (by first | exact Or.inl rfl | exact Or.inr rfl) (pe_op op_sub (pe_op op_sub (pe_ix ix_u (pv 2) (pv 6) (fun _ _ => rfl)) (pv 4)) pe_int))
      (pss_one (ps_expr (pe_bm PySem.F.plainAttrs_list PySem.F.slot_list_append PySem.F.type_list_append mt_append (pv 3) (pa_cons (pe_op op_uAdd (pe_op op_uAdd (pv 7) (pv 8)) pe_int) pa_nil)))))))))
      (pss_one (ps_ret (pe_callB cr_sortedI (by rfl) G.b_sorted (by first | rfl | kernel_rfl) (pa_cons (pv 3) pa_nil))))))))
theorem sc_core : FnScope ["shape", "rows", "many", "row", "even", "evens", "odds", "at", "gap"] ["shape"] (defScope s_core) := ⟨rfl, rfl, rfl, by decide +kernel, rfl, by decide +kernel, by decide +kernel⟩
def t_core (K : PySem.W.Frag) (sp_read_shape : Sp) (sp_first_gaps : Sp) (sp_rows_of_gaps : Sp) (E : XK) : TS := (tSeq (tAsg (tCall sp_read_shape [] E (tCons (tVar 0) tNil)) (gName 1))
  (tSeq (tAsg (tOp (uAdd K) (tCB (uLen K) (tCons (tVar 1) tNil)) (tOp qMod (tCB (uLen K) (tCons (tVar 1) tNil)) (tC (.int 2)))) (gName 2))
  (tSeq (tAsg (tCall sp_first_gaps [] E (tCons (tVar 1) (tCons (tVar 2) tNil))) (gName 3))
  (tSeq (tAsg (tCB (uLen K) (tCons (tLc (iSeq K (tVar 3)) (gName 8) (tTest (tOp (uEq K) (tOp qMod (tVar 8) (tC (.int 2))) (tC (.int 0)))) (tVar 8) [8]) tNil)) (gName 4))
  (tSeq (tAsg (tLc (iRng1 (tCons (tVar 4) tNil)) (gName 7) tYes (tOp qSub (tOp uMul (tC (.int 2)) (tVar 7)) (tVar 2)) [7]) (gName 5))
  (tSeq (tAsg (tLc (iRng1 (tCons (tOp qSub (tVar 2) (tVar 4)) tNil)) (gName 7) tYes (tOp qSub (tOp (uAdd K) (tOp uMul (tC (.int 2)) (tVar 7)) (tC (.int 1))) (tVar 2)) [7]) (gName 6))
  (tRet (tCall sp_rows_of_gaps [] E (tCons (tCKw (rSortedKw K true [.bl true]) (tCons (tOp (uAdd K) (tVar 5) (tVar 6)) tNil) (tCons (tC (.bl true)) tNil)) tNil)))))))))
theorem fn_core (G : Glob K mg) {sp_read_shape : Sp} (h_read_shape : Has P w K mg base "read_shape" 6 ["thing"] sp_read_shape) {sp_first_gaps : Sp} (h_first_gaps : Has P w K mg base "first_gaps" 1 ["rows", "many"] sp_first_gaps) {sp_rows_of_gaps : Sp} (h_rows_of_gaps : Has P w K mg base "rows_of_gaps" 1 ["row"] sp_rows_of_gaps) {fd : FuncData} (F : FunD K "core" "core" (defArgs s_core) (defBody s_core) (defScope s_core) [] [] (He.ga K "core") fd) {sp : Sp} (len : ∀ vs H Q E, sp vs H Q E → vs.length = 1)
    (rd : ∀ vs H Q E, sp vs H Q E → t_core K sp_read_shape sp_first_gaps sp_rows_of_gaps E { nx := fun _ H' => Q .non H', rt := Q } (start ["shape", "rows", "many", "row", "even", "evens", "odds", "at", "gap"] vs) H) : Has P w K mg base "core" 7 ["shape"] sp := by
  have nd := (sc_core).nd
  refine ⟨G.g_core, F.kp, fd, F.ok sc_core len (fun cdv A outer s H vs Q E hr h => ⟨t_core K sp_read_shape sp_first_gaps sp_rows_of_gaps E, ?_, rd vs H Q E h⟩), F.bindsN fun _ _ _ _ _ _ us hl => match us, hl with | [_], _ => rfl⟩
  have tk := L2N.takes_of (X := cxOf (L2N.CX P w) P w K mg base ["shape", "rows", "many", "row", "even", "evens", "odds", "at", "gap"] "core" (defScope s_core) (He.ga K "core") cdv A outer s H E) (E := E) rfl rfl rfl rfl
  exact (pss_cons (ps_set (i := 1) nd rfl (by first | exact Or.inl rfl | exact Or.inr rfl) (pe_callU h_read_shape hr (by decide) (by rfl) (L2N.passes_call tk fun _ _ _ _ h => h) (pa_cons (pv 0) pa_nil)))
      (pss_cons (ps_set (i := 2) nd rfl (by first | exact Or.inl rfl | exact Or.inr rfl) (pe_op op_uAdd (pe_callB cr_len (by rfl) G.b_len (by first | rfl | kernel_rfl) (pa_cons (pv 1) pa_nil)) (pe_op op_mod (pe_callB cr_len (by rfl) G.b_len (by first | rfl | kernel_rfl) (pa_cons (pv 1) pa_nil)) pe_int)))
      (pss_cons (ps_set (i := 3) nd rfl (by first | exact Or.inl rfl | exact Or.inr rfl) (pe_callU h_first_gaps hr (by decide) (by rfl) (L2N.passes_call tk fun _ _ _ _ h => h) (pa_cons (pv 1) (pa_cons (pv 2) pa_nil))))
      (pss_cons (ps_set (i := 4) nd rfl (by first | exact Or.inl rfl | exact Or.inr rfl) (pe_callB cr_len (by rfl) G.b_len (by first | rfl | kernel_rfl) (pa_cons (pe_lc (own := [("gap", 8)]) rfl nd (pi_seq (pv 3)) (blkOk_by (own := [("gap", 8)]) (by first | decide +kernel | rfl)) (fun _ _ _ _ _ => (pg_name (i := 8) nd rfl (by first | exact Or.inl rfl | exact Or.inr rfl) (by first | exact Or.inl rfl | exact Or.inr rfl))) (fun _ _ _ _ _ => (pts_one (pt_cmpR (op_uEq hr.units) (pe_op op_mod (pv 8) pe_int) pe_int (by rfl)))) (fun _ _ _ _ _ => (pv 8))) pa_nil)))
      (pss_cons (by first | exact (ps_setLc (i := 5) (own := [("at", 7)]) rfl nd rfl rfl (sw_true rfl rfl rfl (by decide +kernel)) (pi_range1 (by rfl) G.b_range (pa_cons (pv 4) pa_nil)) (blkOk_by (own := [("at", 7)]) (by first | decide +kernel | rfl)) (fun _ _ _ _ _ => (pg_name (i := 7) nd rfl (by first | exact Or.inl rfl | exact Or.inr rfl) (by first | exact Or.inl rfl | exact Or.inr rfl))) (fun _ _ _ _ _ => pts_nil) (fun _ _ _ _ _ => (pe_op op_sub (pe_op op_uMul pe_int (pv 7)) (pv 2)))) | exact (ps_set (i := 5) nd rfl (by first | exact Or.inl rfl | exact Or.inr rfl) (pe_lc (own := [("at", 7)]) rfl nd (pi_range1 (by rfl) G.b_range (pa_cons (pv 4) pa_nil)) (blkOk_by (own := [("at", 7)]) (by first | decide +kernel | rfl)) (fun _ _ _ _ _ => (pg_name (i := 7) nd rfl (by first | exact Or.inl rfl | exact Or.inr rfl) (by first | exact Or.inl rfl | exact Or.inr rfl))) (fun _ _ _ _ _ => pts_nil) (fun _ _ _ _ _ => (pe_op op_sub (pe_op op_uMul pe_int (pv 7)) (pv 2))))))
      (pss_cons (by first | exact (ps_setLc (i := 6) (own := [("at", 7)]) rfl nd rfl rfl (sw_true rfl rfl rfl (by decide +kernel)) (pi_range1 (by rfl) G.b_range (pa_cons (pe_op op_sub (pv 2) (pv 4)) pa_nil)) (blkOk_by (own := [("at", 7)]) (by first | decide +kernel | rfl)) (fun _ _ _ _ _ => (pg_name (i := 7) nd rfl (by first | exact Or.inl rfl | exact Or.inr rfl) (by first | exact Or.inl rfl | exact Or.inr rfl))) (fun _ _ _ _ _ => pts_nil) (fun _ _ _ _ _ => (pe_op op_sub (pe_op op_uAdd (pe_op op_uMul pe_int (pv 7)) pe_int) (pv 2)))) | exact (ps_set (i := 6) nd rfl (by first | exact Or.inl rfl | exact Or.inr rfl) (pe_lc (own := [("at", 7)]) rfl nd (pi_range1 (by rfl) G.b_range (pa_cons (pe_op op_sub (pv 2) (pv 4)) pa_nil)) (blkOk_by (own := [("at", 7)]) (by first | decide +kernel | rfl)) (fun _ _ _ _ _ => (pg_name (i := 7) nd rfl (by first | exact Or.inl rfl | exact Or.inr rfl) (by first | exact Or.inl rfl | exact Or.inr rfl))) (fun _ _ _ _ _ => pts_nil) (fun _ _ _ _ _ => (pe_op op_sub (pe_op op_uAdd (pe_op op_uMul pe_int (pv 7)) pe_int) (pv 2))))))
      (pss_one (ps_ret (pe_callU h_rows_of_gaps hr (by decide) (by rfl) (L2N.passes_call tk fun _ _ _ _ h => h) (pa_cons (pe_callBK cr_sortedRev (by rfl) G.b_sorted (by first | rfl | kernel_rfl) (pa_cons (pe_op op_uAdd (pv 5) (pv 6)) pa_nil) (pk_cons pe_bl pk_nil)) pa_nil))))))))))
theorem sc__law_bag : FnScope ["script", "stir", "cell"] ["script"] (defScope s__law_bag) := ⟨rfl, rfl, rfl, by decide +kernel, rfl, by decide +kernel, by decide +kernel⟩
def t__law_bag (K : PySem.W.Frag) : TS := (tSeq (tAsg (tC (.int 19609)) (gName 1))
  (tSeq (tFor (iSeq K (tSl (rSl K) (tVar 0) tNoPart (tPart (tC (.int 63))))) (gName 2) (tAsg (tOp qMod (tCB (uInt) (tCons (tOp (uAdd K) (tOp (uAdd K) (tOp uMul (tVar 1) (tC (.int 48611))) (tOp qMod (tCB (uInt) (tCons (tVar 2) tNil)) (tC (.int 2147483549)))) (tC (.int 2609))) tNil)) (tC (.int 2147483579))) (gName 1)))
  (tRet (tLst (tCons (tCB (uList K) (tCons (tSl (rSl K) (tVar 0) tNoPart (tPart (tC (.int 63)))) tNil)) (tCons (tC (.int 0)) (tCons (tC (.int 0)) (tCons (tC (.int 0)) (tCons (tVar 1) (tCons (tC (.int 0)) tNil))))))))))
theorem fn__law_bag (G : Glob K mg) {fd : FuncData} (F : FunD K "_law_bag" "_law_bag" (defArgs s__law_bag) (defBody s__law_bag) (defScope s__law_bag) [] [] (He.ga K "_law_bag") fd) {sp : Sp} (len : ∀ vs H Q E, sp vs H Q E → vs.length = 1)
    (rd : ∀ vs H Q E, sp vs H Q E → t__law_bag K { nx := fun _ H' => Q .non H', rt := Q } (start ["script", "stir", "cell"] vs) H) : Has P w K mg base "_law_bag" 1 ["script"] sp := by
  have nd := (sc__law_bag).nd
  refine ⟨G.g__law_bag, F.kp, fd, F.ok sc__law_bag len (fun cdv A outer s H vs Q E hr h => ⟨t__law_bag K, ?_, rd vs H Q E h⟩), F.bindsN fun _ _ _ _ _ _ us hl => match us, hl with | [_], _ => rfl⟩
  refine PSs.nox ?_
  exact (pss_cons (ps_set (i := 1) nd rfl (by first | exact Or.inl rfl | exact Or.inr rfl) pe_int)
      (pss_cons (ps_for PassesOwn.never rfl (pi_seq (pe_slice sl_u (pv 0) po_none (po_some pe_int))) (pg_name (i := 2) nd rfl (by first | exact Or.inl rfl | exact Or.inr rfl) (by first | exact Or.inl rfl | exact Or.inr rfl)) (pss_one (ps_set (i := 1) nd rfl (by first | exact Or.inl rfl | exact Or.inr rfl) (pe_op op_mod (pe_callTy U.cr_int (by rfl) G.b_int (by first | rfl | kernel_rfl) (pa_cons (pe_op op_uAdd (pe_op op_uAdd (pe_op op_uMul (pv 1) pe_int) (pe_op op_mod (pe_callTy U.cr_int (by rfl) G.b_int (by first | rfl | kernel_rfl) (pa_cons (pv 2) pa_nil)) pe_int)) pe_int) pa_nil)) pe_int))))
      (pss_one (ps_ret (pe_lst (pa_cons (pe_callTy U.cr_list (by rfl) G.b_list (by first | rfl | kernel_rfl) (pa_cons (pe_slice sl_u (pv 0) po_none (po_some pe_int)) pa_nil)) (pa_cons pe_int (pa_cons pe_int (pa_cons pe_int (pa_cons (pv 1) (pa_cons pe_int pa_nil)))))))))))
theorem sc__law_draw : FnScope ["jar", "top", "cell", "digit"] ["jar", "top"] (defScope s__law_draw) := ⟨rfl, rfl, rfl, by decide +kernel, rfl, by decide +kernel, by decide +kernel⟩
def t__law_draw (K : PySem.W.Frag) : TS := (tSeq (tAsg (tOp (uAdd K) (tOp (uIx K) (tVar 0) (tC (.int 5))) (tC (.int 1))) (gSub (tVar 0) (tC (.int 5)) rSetL))
  (tSeq (tIfS (tAnd (tTest (tOp (uEq K) (tOp (uIx K) (tVar 0) (tC (.int 3))) (tC (.int 0)))) (tTest (tOp qLt (tOp (uIx K) (tVar 0) (tC (.int 1))) (tCB (uLen K) (tCons (tOp (uIx K) (tVar 0) (tC (.int 0))) tNil))))) (tSeq (tAsg (tOp (uIx K) (tOp (uIx K) (tVar 0) (tC (.int 0))) (tOp (uIx K) (tVar 0) (tC (.int 1)))) (gName 2))
  (tSeq (tAsg (tOp (uAdd K) (tOp (uIx K) (tVar 0) (tC (.int 1))) (tC (.int 1))) (gSub (tVar 0) (tC (.int 1)) rSetL))
  (tIfS (tTest (tOp qGe (tVar 2) (tOp qPow (tC (.int 10)) (tC (.int 18))))) (tSeq (tAsg (tVar 2) (gSub (tVar 0) (tC (.int 2)) rSetL))
  (tAsg (tC (.int 60)) (gSub (tVar 0) (tC (.int 3)) rSetL))) (tAsg (tOp qMod (tCB (uInt) (tCons (tOp (uAdd K) (tOp (uAdd K) (tOp uMul (tOp (uIx K) (tVar 0) (tC (.int 4))) (tC (.int 40093))) (tOp uMul (tOp qMod (tCB (uInt) (tCons (tVar 2) tNil)) (tC (.int 2147483549))) (tC (.int 7919)))) (tC (.int 101))) tNil)) (tC (.int 2147483579))) (gSub (tVar 0) (tC (.int 4)) rSetL))))) tNext)
  (tSeq (tIfS (tTest (tOp qGt (tOp (uIx K) (tVar 0) (tC (.int 3))) (tC (.int 0)))) (tSeq (tAsg (tOp qMod (tCB (uInt) (tCons (tOp (uIx K) (tVar 0) (tC (.int 2))) tNil)) (tVar 1)) (gName 3))
  (tSeq (tAsg (tOp qFdiv (tOp (uIx K) (tVar 0) (tC (.int 2))) (tVar 1)) (gSub (tVar 0) (tC (.int 2)) rSetL))
  (tSeq (tAsg (tIf (tTest (tOp qGt (tOp (uIx K) (tVar 0) (tC (.int 2))) (tC (.int 0)))) (tOp qSub (tOp (uIx K) (tVar 0) (tC (.int 3))) (tC (.int 1))) (tC (.int 0))) (gSub (tVar 0) (tC (.int 3)) rSetL))
  (tRet (tVar 3))))) tNext)
  (tSeq (tAsg (tOp qMod (tCB (uInt) (tCons (tOp (uAdd K) (tOp (uAdd K) (tOp qPow (tOp (uIx K) (tVar 0) (tC (.int 4))) (tC (.int 3))) (tOp uMul (tOp (uIx K) (tVar 0) (tC (.int 5))) (tC (.int 1299709)))) (tC (.int 104729))) tNil)) (tC (.int 2147483579))) (gSub (tVar 0) (tC (.int 4)) rSetL))
  (tRet (tOp qMod (tCB (uInt) (tCons (tOp (uAdd K) (tOp qFdiv (tOp (uIx K) (tVar 0) (tC (.int 4))) (tC (.int 61))) (tOp uMul (tOp qMod (tCB (uInt) (tCons (tOp (uIx K) (tVar 0) (tC (.int 4))) tNil)) (tC (.int 6007))) (tC (.int 71)))) tNil)) (tVar 1)))))))
theorem fn__law_draw (G : Glob K mg) {fd : FuncData} (F : FunD K "_law_draw" "_law_draw" (defArgs s__law_draw) (defBody s__law_draw) (defScope s__law_draw) [] [] (He.ga K "_law_draw") fd) {sp : Sp} (len : ∀ vs H Q E, sp vs H Q E → vs.length = 2)
    (rd : ∀ vs H Q E, sp vs H Q E → t__law_draw K { nx := fun _ H' => Q .non H', rt := Q } (start ["jar", "top", "cell", "digit"] vs) H) : Has P w K mg base "_law_draw" 1 ["jar", "top"] sp := by
  have nd := (sc__law_draw).nd
  refine ⟨G.g__law_draw, F.kp, fd, F.ok sc__law_draw len (fun cdv A outer s H vs Q E hr h => ⟨t__law_draw K, ?_, rd vs H Q E h⟩), F.bindsN fun _ _ _ _ _ _ us hl => match us, hl with | [_, _], _ => rfl⟩
  refine PSs.nox ?_
  exact (pss_cons (ps_asg (pe_op op_uAdd (pe_ix ix_u (pv 0) pe_int (fun _ _ => rfl)) pe_int) (pg_sub (pv 0) pe_int set_list))
      (pss_cons (ps_if ((pw_and (pt_cmpR (op_uEq hr.units) (pe_ix ix_u (pv 0) pe_int (fun _ _ => rfl)) pe_int (by rfl)) (pw_and1 (pt_cmpR op_lt (pe_ix ix_u (pv 0) pe_int (fun _ _ => rfl)) (pe_callB cr_len (by rfl) G.b_len (by first | rfl | kernel_rfl) (pa_cons (pe_ix ix_u (pv 0) pe_int (fun _ _ => rfl)) pa_nil)) (by rfl))))).pt (pss_cons (ps_set (i := 2) nd rfl (by first | exact Or.inl rfl | exact Or.inr rfl) (pe_ix ix_u (pe_ix ix_u (pv 0) pe_int (fun _ _ => rfl)) (pe_ix ix_u (pv 0) pe_int (fun _ _ => rfl)) (fun _ _ => rfl)))
      (pss_cons (ps_asg (pe_op op_uAdd (pe_ix ix_u (pv 0) pe_int (fun _ _ => rfl)) pe_int) (pg_sub (pv 0) pe_int set_list))
      (pss_one (ps_if (pt_cmpR op_ge (pv 2) (pe_op op_pow pe_int pe_int) (by rfl)) (pss_cons (ps_asg (pv 2) (pg_sub (pv 0) pe_int set_list))
      (pss_one (ps_asg pe_int (pg_sub (pv 0) pe_int set_list)))) (pss_one (ps_asg (pe_op op_mod (pe_callTy U.cr_int (by rfl) G.b_int (by first | rfl | kernel_rfl) (pa_cons (pe_op op_uAdd (pe_op op_uAdd (pe_op op_uMul (pe_ix ix_u (pv 0) pe_int (fun _ _ => rfl)) pe_int) (pe_op op_uMul (pe_op op_mod (pe_callTy U.cr_int (by rfl) G.b_int (by first | rfl | kernel_rfl) (pa_cons (pv 2) pa_nil)) pe_int) pe_int)) pe_int) pa_nil)) pe_int) (pg_sub (pv 0) pe_int set_list))))))) pss_nil)
      (pss_cons (ps_if (pt_cmpR op_gt (pe_ix ix_u (pv 0) pe_int (fun _ _ => rfl)) pe_int (by rfl)) (pss_cons (ps_set (i := 3) nd rfl (by first | exact Or.inl rfl | exact Or.inr rfl) (pe_op op_mod (pe_callTy U.cr_int (by rfl) G.b_int (by first | rfl | kernel_rfl) (pa_cons (pe_ix ix_u (pv 0) pe_int (fun _ _ => rfl)) pa_nil)) (pv 1)))
      (pss_cons (ps_asg (pe_op op_fdiv (pe_ix ix_u (pv 0) pe_int (fun _ _ => rfl)) (pv 1)) (pg_sub (pv 0) pe_int set_list))
      (pss_cons (ps_asg (pe_ifExp (pt_cmpR op_gt (pe_ix ix_u (pv 0) pe_int (fun _ _ => rfl)) pe_int (by rfl)) (pe_op op_sub (pe_ix ix_u (pv 0) pe_int (fun _ _ => rfl)) pe_int) pe_int) (pg_sub (pv 0) pe_int set_list))
      (pss_one (ps_ret (pv 3)))))) pss_nil)
      (pss_cons (ps_asg (pe_op op_mod (pe_callTy U.cr_int (by rfl) G.b_int (by first | rfl | kernel_rfl) (pa_cons (pe_op op_uAdd (pe_op op_uAdd (pe_op op_pow (pe_ix ix_u (pv 0) pe_int (fun _ _ => rfl)) pe_int) (pe_op op_uMul (pe_ix ix_u (pv 0) pe_int (fun _ _ => rfl)) pe_int)) pe_int) pa_nil)) pe_int) (pg_sub (pv 0) pe_int set_list))
      (pss_one (ps_ret (pe_op op_mod (pe_callTy U.cr_int (by rfl) G.b_int (by first | rfl | kernel_rfl) (pa_cons (pe_op op_uAdd (pe_op op_fdiv (pe_ix ix_u (pv 0) pe_int (fun _ _ => rfl)) pe_int) (pe_op op_uMul (pe_op op_mod (pe_callTy U.cr_int (by rfl) G.b_int (by first | rfl | kernel_rfl) (pa_cons (pe_ix ix_u (pv 0) pe_int (fun _ _ => rfl)) pa_nil)) pe_int) pe_int)) pa_nil)) (pv 1))))))))
theorem sc__law_pick : FnScope ["jar", "menu"] ["jar", "menu"] (defScope s__law_pick) := ⟨rfl, rfl, rfl, by decide +kernel, rfl, by decide +kernel, by decide +kernel⟩
def t__law_pick (K : PySem.W.Frag) (sp__law_draw : Sp) : TS := (tRet (tOp (uIx K) (tVar 1) (tCall sp__law_draw [] E0 (tCons (tVar 0) (tCons (tCB (uLen K) (tCons (tVar 1) tNil)) tNil)))))
theorem fn__law_pick (G : Glob K mg) {sp__law_draw : Sp} (h__law_draw : Has P w K mg base "_law_draw" 1 ["jar", "top"] sp__law_draw) {fd : FuncData} (F : FunD K "_law_pick" "_law_pick" (defArgs s__law_pick) (defBody s__law_pick) (defScope s__law_pick) [] [] (He.ga K "_law_pick") fd) {sp : Sp} (len : ∀ vs H Q E, sp vs H Q E → vs.length = 2)
    (rd : ∀ vs H Q E, sp vs H Q E → t__law_pick K sp__law_draw { nx := fun _ H' => Q .non H', rt := Q } (start ["jar", "menu"] vs) H) : Has P w K mg base "_law_pick" 2 ["jar", "menu"] sp := by
  have nd := (sc__law_pick).nd
  refine ⟨G.g__law_pick, F.kp, fd, F.ok sc__law_pick len (fun cdv A outer s H vs Q E hr h => ⟨t__law_pick K sp__law_draw, ?_, rd vs H Q E h⟩), F.bindsN fun _ _ _ _ _ _ us hl => match us, hl with | [_, _], _ => rfl⟩
  refine PSs.nox ?_
  exact (pss_one (ps_ret (pe_ix ix_u (pv 1) (pe_callU h__law_draw hr (by decide) (by rfl) passN (pa_cons (pv 0) (pa_cons (pe_callB cr_len (by rfl) G.b_len (by first | rfl | kernel_rfl) (pa_cons (pv 1) pa_nil)) pa_nil))) (fun _ _ => rfl))))
theorem sc__law_reach : FnScope ["jar", "least", "most"] ["jar", "least", "most"] (defScope s__law_reach) := ⟨rfl, rfl, rfl, by decide +kernel, rfl, by decide +kernel, by decide +kernel⟩
def t__law_reach (K : PySem.W.Frag) (sp__law_draw : Sp) : TS := (tRet (tOp (uAdd K) (tVar 1) (tCall sp__law_draw [] E0 (tCons (tVar 0) (tCons (tOp (uAdd K) (tOp qSub (tVar 2) (tVar 1)) (tC (.int 1))) tNil)))))
theorem fn__law_reach (G : Glob K mg) {sp__law_draw : Sp} (h__law_draw : Has P w K mg base "_law_draw" 1 ["jar", "top"] sp__law_draw) {fd : FuncData} (F : FunD K "_law_reach" "_law_reach" (defArgs s__law_reach) (defBody s__law_reach) (defScope s__law_reach) [] [] (He.ga K "_law_reach") fd) {sp : Sp} (len : ∀ vs H Q E, sp vs H Q E → vs.length = 3)
    (rd : ∀ vs H Q E, sp vs H Q E → t__law_reach K sp__law_draw { nx := fun _ H' => Q .non H', rt := Q } (start ["jar", "least", "most"] vs) H) : Has P w K mg base "_law_reach" 2 ["jar", "least", "most"] sp := by
  have nd := (sc__law_reach).nd
  refine ⟨G.g__law_reach, F.kp, fd, F.ok sc__law_reach len (fun cdv A outer s H vs Q E hr h => ⟨t__law_reach K sp__law_draw, ?_, rd vs H Q E h⟩), F.bindsN fun _ _ _ _ _ _ us hl => match us, hl with | [_, _, _], _ => rfl⟩
  refine PSs.nox ?_
  exact (pss_one (ps_ret (pe_op op_uAdd (pv 1) (pe_callU h__law_draw hr (by decide) (by rfl) passN (pa_cons (pv 0) (pa_cons (pe_op op_uAdd (pe_op op_sub (pv 2) (pv 1)) pe_int) pa_nil))))))
theorem sc__law_whole : FnScope ["told"] ["told"] (defScope s__law_whole) := ⟨rfl, rfl, rfl, by decide +kernel, rfl, by decide +kernel, by decide +kernel⟩
def t__law_whole (K : PySem.W.Frag) : TS := (tRet (tAndV (tCB (rIsi K) (tCons (tVar 0) (tCons (tC (.ty "int")) tNil))) (tNotV (tCB (rIsi K) (tCons (tVar 0) (tCons (tC (.ty "bool")) tNil))))))
theorem fn__law_whole (G : Glob K mg) {fd : FuncData} (F : FunD K "_law_whole" "_law_whole" (defArgs s__law_whole) (defBody s__law_whole) (defScope s__law_whole) [] [] (He.ga K "_law_whole") fd) {sp : Sp} (len : ∀ vs H Q E, sp vs H Q E → vs.length = 1)
    (rd : ∀ vs H Q E, sp vs H Q E → t__law_whole K { nx := fun _ H' => Q .non H', rt := Q } (start ["told"] vs) H) : Has P w K mg base "_law_whole" 1 ["told"] sp := by
  have nd := (sc__law_whole).nd
  refine ⟨G.g__law_whole, F.kp, fd, F.ok sc__law_whole len (fun cdv A outer s H vs Q E hr h => ⟨t__law_whole K, ?_, rd vs H Q E h⟩), F.bindsN fun _ _ _ _ _ _ us hl => match us, hl with | [_], _ => rfl⟩
  refine PSs.nox ?_
  exact (pss_one (ps_ret (pe_and (pe_callB call_isi (by rfl) G.b_isinstance (by first | rfl | kernel_rfl) (pa_cons (pv 0) (pa_cons (pe_bltn (v := .ty "int") (by rfl) G.b_int (by first | rfl | kernel_rfl) rfl) pa_nil))) (pe_one (pe_not (pe_callB call_isi (by rfl) G.b_isinstance (by first | rfl | kernel_rfl) (pa_cons (pv 0) (pa_cons (pe_bltn (v := .ty "bool") (by rfl) G.b_bool (by first | rfl | kernel_rfl) rfl) pa_nil))))))))
theorem sc__law_like : FnScope ["told", "due", "i"] ["told", "due"] (defScope s__law_like) := ⟨rfl, rfl, rfl, by decide +kernel, rfl, by decide +kernel, by decide +kernel⟩
def t__law_like (K : PySem.W.Frag) (sp__law_whole : Sp) (sp__law_like : Sp) : TS := (tSeq (tIfS (tOr (L2.tB (tCB (rIsi K) (tCons (tVar 1) (tCons (tC (.ty "bool")) tNil)))) (L2.tB (tCB (rIsi K) (tCons (tVar 1) (tCons (tC (.ty "str")) tNil))))) (tRet (tAndV (tOp (uEq K) (tCB (rIsi K) (tCons (tVar 0) (tCons (tC (.ty "bool")) tNil))) (tCB (rIsi K) (tCons (tVar 1) (tCons (tC (.ty "bool")) tNil)))) (tAndV (tOp (uEq K) (tCB (rIsi K) (tCons (tVar 0) (tCons (tC (.ty "str")) tNil))) (tCB (rIsi K) (tCons (tVar 1) (tCons (tC (.ty "str")) tNil)))) (tOp (uEq K) (tVar 0) (tVar 1))))) tNext)
  (tSeq (tIfS (L2.tB (tCB (rIsi K) (tCons (tVar 1) (tCons (tC (.ty "int")) tNil)))) (tRet (tAndV (tCall sp__law_whole [] E0 (tCons (tVar 0) tNil)) (tOp (uEq K) (tVar 0) (tVar 1)))) tNext)
  (tSeq (tIfS (tOr (L2.tB (tCB (rIsi K) (tCons (tVar 1) (tCons (tC (.ty "list")) tNil)))) (L2.tB (tCB (rIsi K) (tCons (tVar 1) (tCons (tC (.ty "tuple")) tNil))))) (tSeq (tIfS (tOr (tTest (tOp (uNe K) (tCB (rIsi K) (tCons (tVar 0) (tCons (tC (.ty "list")) tNil))) (tCB (rIsi K) (tCons (tVar 1) (tCons (tC (.ty "list")) tNil))))) (tOr (tTest (tOp (uNe K) (tCB (rIsi K) (tCons (tVar 0) (tCons (tC (.ty "tuple")) tNil))) (tCB (rIsi K) (tCons (tVar 1) (tCons (tC (.ty "tuple")) tNil))))) (tTest (tOp (uNe K) (tCB (uLen K) (tCons (tVar 0) tNil)) (tCB (uLen K) (tCons (tVar 1) tNil)))))) (tRet (tC (.bl false))) tNext)
  (tRet (tOp (uEq K) (tCB (uLen K) (tCons (tLc (iRng1 (tCons (tCB (uLen K) (tCons (tVar 1) tNil)) tNil)) (gName 2) (tNot (L2.tB (tCall sp__law_like [] E0 (tCons (tOp (uIx K) (tVar 0) (tVar 2)) (tCons (tOp (uIx K) (tVar 1) (tVar 2)) tNil))))) (tVar 2) [2]) tNil)) (tC (.int 0))))) tNext)
  (tRet (tAndV (tOp rIsN (tVar 1) (tC .non)) (tOp rIsN (tVar 0) (tC .non)))))))
theorem fn__law_like (G : Glob K mg) {lv : Nat} (hlv : 1 ≤ lv) {sp__law_whole : Sp} (h__law_whole : Has P w K mg base "_law_whole" 1 ["told"] sp__law_whole) {sp__law_like : Sp} (h__law_like : Has P w K mg base "_law_like" lv ["told", "due"] sp__law_like) {fd : FuncData} (F : FunD K "_law_like" "_law_like" (defArgs s__law_like) (defBody s__law_like) (defScope s__law_like) [] [] (He.ga K "_law_like") fd) {sp : Sp} (len : ∀ vs H Q E, sp vs H Q E → vs.length = 2)
    (rd : ∀ vs H Q E, sp vs H Q E → t__law_like K sp__law_whole sp__law_like { nx := fun _ H' => Q .non H', rt := Q } (start ["told", "due", "i"] vs) H) : Has P w K mg base "_law_like" (lv + 1) ["told", "due"] sp := by
  have nd := (sc__law_like).nd
  refine ⟨G.g__law_like, F.kp, fd, F.ok sc__law_like len (fun cdv A outer s H vs Q E hr h => ⟨t__law_like K sp__law_whole sp__law_like, ?_, rd vs H Q E h⟩), F.bindsN fun _ _ _ _ _ _ us hl => match us, hl with | [_, _], _ => rfl⟩
  refine PSs.nox ?_
  exact (pss_cons (ps_if ((pw_or (pt_val (pe_callB call_isi (by rfl) G.b_isinstance (by first | rfl | kernel_rfl) (pa_cons (pv 1) (pa_cons (pe_bltn (v := .ty "bool") (by rfl) G.b_bool (by first | rfl | kernel_rfl) rfl) pa_nil)))) (pw_or1 (pt_val (pe_callB call_isi (by rfl) G.b_isinstance (by first | rfl | kernel_rfl) (pa_cons (pv 1) (pa_cons (pe_bltn (v := .ty "str") (by rfl) G.b_str (by first | rfl | kernel_rfl) rfl) pa_nil))))))).pt (pss_one (ps_ret (pe_and (pe_cmpR (op_uEq hr.units) (pe_callB call_isi (by rfl) G.b_isinstance (by first | rfl | kernel_rfl) (pa_cons (pv 0) (pa_cons (pe_bltn (v := .ty "bool") (by rfl) G.b_bool (by first | rfl | kernel_rfl) rfl) pa_nil))) (pe_callB call_isi (by rfl) G.b_isinstance (by first | rfl | kernel_rfl) (pa_cons (pv 1) (pa_cons (pe_bltn (v := .ty "bool") (by rfl) G.b_bool (by first | rfl | kernel_rfl) rfl) pa_nil))) (by rfl)) (pe_and (pe_cmpR (op_uEq hr.units) (pe_callB call_isi (by rfl) G.b_isinstance (by first | rfl | kernel_rfl) (pa_cons (pv 0) (pa_cons (pe_bltn (v := .ty "str") (by rfl) G.b_str (by first | rfl | kernel_rfl) rfl) pa_nil))) (pe_callB call_isi (by rfl) G.b_isinstance (by first | rfl | kernel_rfl) (pa_cons (pv 1) (pa_cons (pe_bltn (v := .ty "str") (by rfl) G.b_str (by first | rfl | kernel_rfl) rfl) pa_nil))) (by rfl)) (pe_one (pe_cmpR (op_uEq hr.units) (pv 0) (pv 1) (by rfl))))))) pss_nil)
      (pss_cons (ps_if (pt_val (pe_callB call_isi (by rfl) G.b_isinstance (by first | rfl | kernel_rfl) (pa_cons (pv 1) (pa_cons (pe_bltn (v := .ty "int") (by rfl) G.b_int (by first | rfl | kernel_rfl) rfl) pa_nil)))) (pss_one (ps_ret (pe_and (pe_callU h__law_whole hr (by omega) (by rfl) passN (pa_cons (pv 0) pa_nil)) (pe_one (pe_cmpR (op_uEq hr.units) (pv 0) (pv 1) (by rfl)))))) pss_nil)
      (pss_cons (ps_if ((pw_or (pt_val (pe_callB call_isi (by rfl) G.b_isinstance (by first | rfl | kernel_rfl) (pa_cons (pv 1) (pa_cons (pe_bltn (v := .ty "list") (by rfl) G.b_list (by first | rfl | kernel_rfl) rfl) pa_nil)))) (pw_or1 (pt_val (pe_callB call_isi (by rfl) G.b_isinstance (by first | rfl | kernel_rfl) (pa_cons (pv 1) (pa_cons (pe_bltn (v := .ty "tuple") (by rfl) G.b_tuple (by first | rfl | kernel_rfl) rfl) pa_nil))))))).pt (pss_cons (ps_if ((pw_or (pt_cmpR (op_uNe hr.units) (pe_callB call_isi (by rfl) G.b_isinstance (by first | rfl | kernel_rfl) (pa_cons (pv 0) (pa_cons (pe_bltn (v := .ty "list") (by rfl) G.b_list (by first | rfl | kernel_rfl) rfl) pa_nil))) (pe_callB call_isi (by rfl) G.b_isinstance (by first | rfl | kernel_rfl) (pa_cons (pv 1) (pa_cons (pe_bltn (v := .ty "list") (by rfl) G.b_list (by first | rfl | kernel_rfl) rfl) pa_nil))) (by rfl)) (pw_or (pt_cmpR (op_uNe hr.units) (pe_callB call_isi (by rfl) G.b_isinstance (by first | rfl | kernel_rfl) (pa_cons (pv 0) (pa_cons (pe_bltn (v := .ty "tuple") (by rfl) G.b_tuple (by first | rfl | kernel_rfl) rfl) pa_nil))) (pe_callB call_isi (by rfl) G.b_isinstance (by first | rfl | kernel_rfl) (pa_cons (pv 1) (pa_cons (pe_bltn (v := .ty "tuple") (by rfl) G.b_tuple (by first | rfl | kernel_rfl) rfl) pa_nil))) (by rfl)) (pw_or1 (pt_cmpR (op_uNe hr.units) (pe_callB cr_len (by rfl) G.b_len (by first | rfl | kernel_rfl) (pa_cons (pv 0) pa_nil)) (pe_callB cr_len (by rfl) G.b_len (by first | rfl | kernel_rfl) (pa_cons (pv 1) pa_nil)) (by rfl)))))).pt (pss_one (ps_ret pe_bl)) pss_nil)
      (pss_one (ps_ret (pe_cmpR (op_uEq hr.units) (pe_callB cr_len (by rfl) G.b_len (by first | rfl | kernel_rfl) (pa_cons (pe_lc (own := [("i", 2)]) rfl nd (pi_range1 (by rfl) G.b_range (pa_cons (pe_callB cr_len (by rfl) G.b_len (by first | rfl | kernel_rfl) (pa_cons (pv 1) pa_nil)) pa_nil)) (blkOk_by (own := [("i", 2)]) (by first | decide +kernel | rfl)) (fun _ _ _ _ _ => (pg_name (i := 2) nd rfl (by first | exact Or.inl rfl | exact Or.inr rfl) (by first | exact Or.inl rfl | exact Or.inr rfl))) (fun _ _ _ _ _ => (pts_one (pt_not (pt_val (pe_callU h__law_like hr (by omega) (by rfl) passN (pa_cons (pe_ix ix_u (pv 0) (pv 2) (fun _ _ => rfl)) (pa_cons (pe_ix ix_u (pv 1) (pv 2) (fun _ _ => rfl)) pa_nil))))))) (fun _ _ _ _ _ => (pv 2))) pa_nil)) pe_int (by rfl))))) pss_nil)
      (pss_one (ps_ret (pe_and (pe_cmpR op_isN1 (pv 1) pe_non (by rfl)) (pe_one (pe_cmpR op_isN1 (pv 0) pe_non (by rfl)))))))))
theorem sc__law_cells_of : FnScope ["lam", "made", "i", "j"] ["lam"] (defScope s__law_cells_of) := ⟨rfl, rfl, rfl, by decide +kernel, rfl, by decide +kernel, by decide +kernel⟩
def t__law_cells_of (K : PySem.W.Frag) : TS := (tSeq (tAsg (tLst tNil) (gName 1))
  (tSeq (tFor (iRng1 (tCons (tCB (uLen K) (tCons (tVar 0) tNil)) tNil)) (gName 2) (tFor (iRng1 (tCons (tOp (uIx K) (tVar 0) (tVar 2)) tNil)) (gName 3) (tDrop (tBM K "list" rAppend (tVar 1) (tCons (tTup (tCons (tVar 2) (tCons (tVar 3) tNil))) tNil)))))
  (tRet (tVar 1))))
theorem fn__law_cells_of (G : Glob K mg) {fd : FuncData} (F : FunD K "_law_cells_of" "_law_cells_of" (defArgs s__law_cells_of) (defBody s__law_cells_of) (defScope s__law_cells_of) [] [] (He.ga K "_law_cells_of") fd) {sp : Sp} (len : ∀ vs H Q E, sp vs H Q E → vs.length = 1)
    (rd : ∀ vs H Q E, sp vs H Q E → t__law_cells_of K { nx := fun _ H' => Q .non H', rt := Q } (start ["lam", "made", "i", "j"] vs) H) : Has P w K mg base "_law_cells_of" 1 ["lam"] sp := by
  have nd := (sc__law_cells_of).nd
  refine ⟨G.g__law_cells_of, F.kp, fd, F.ok sc__law_cells_of len (fun cdv A outer s H vs Q E hr h => ⟨t__law_cells_of K, ?_, rd vs H Q E h⟩), F.bindsN fun _ _ _ _ _ _ us hl => match us, hl with | [_], _ => rfl⟩
  refine PSs.nox ?_
  exact (pss_cons (ps_set (i := 1) nd rfl (by first | exact Or.inl rfl | exact Or.inr rfl) (pe_lst pa_nil))
      (pss_cons (ps_for PassesOwn.never rfl (pi_range1 (by rfl) G.b_range (pa_cons (pe_callB cr_len (by rfl) G.b_len (by first | rfl | kernel_rfl) (pa_cons (pv 0) pa_nil)) pa_nil)) (pg_name (i := 2) nd rfl (by first | exact Or.inl rfl | exact Or.inr rfl) (by first | exact Or.inl rfl | exact Or.inr rfl)) (pss_one (ps_for PassesOwn.never rfl (pi_range1 (by rfl) G.b_range (pa_cons (pe_ix ix_u (pv 0) (pv 2) (fun _ _ => rfl)) pa_nil)) (pg_name (i := 3) nd rfl (by first | exact Or.inl rfl | exact Or.inr rfl) (by first | exact Or.inl rfl | exact Or.inr rfl)) (pss_one (ps_expr (pe_bm PySem.F.plainAttrs_list PySem.F.slot_list_append PySem.F.type_list_append mt_append (pv 1) (pa_cons (pe_tup (pa_cons (pv 2) (pa_cons (pv 3) pa_nil))) pa_nil)))))))
      (pss_one (ps_ret (pv 1)))))
theorem sc__law_columns : FnScope ["lam", "j", "row"] ["lam"] (defScope s__law_columns) := ⟨rfl, rfl, rfl, by decide +kernel, rfl, by decide +kernel, by decide +kernel⟩
def t__law_columns (K : PySem.W.Frag) : TS := (tRet (tCB (uTup K) (tCons (tLc (iRng1 (tCons (tIf (tTest (tOp qGt (tCB (uLen K) (tCons (tVar 0) tNil)) (tC (.int 0)))) (tOp (uIx K) (tVar 0) (tC (.int 0))) (tC (.int 0))) tNil)) (gName 1) tYes (tCB (uLen K) (tCons (tLc (iSeq K (tVar 0)) (gName 2) (tTest (tOp qGt (tVar 2) (tVar 1))) (tVar 2) [2]) tNil)) [1]) tNil)))
theorem fn__law_columns (G : Glob K mg) {fd : FuncData} (F : FunD K "_law_columns" "_law_columns" (defArgs s__law_columns) (defBody s__law_columns) (defScope s__law_columns) [] [] (He.ga K "_law_columns") fd) {sp : Sp} (len : ∀ vs H Q E, sp vs H Q E → vs.length = 1)
    (rd : ∀ vs H Q E, sp vs H Q E → t__law_columns K { nx := fun _ H' => Q .non H', rt := Q } (start ["lam", "j", "row"] vs) H) : Has P w K mg base "_law_columns" 1 ["lam"] sp := by
  have nd := (sc__law_columns).nd
  refine ⟨G.g__law_columns, F.kp, fd, F.ok sc__law_columns len (fun cdv A outer s H vs Q E hr h => ⟨t__law_columns K, ?_, rd vs H Q E h⟩), F.bindsN fun _ _ _ _ _ _ us hl => match us, hl with | [_], _ => rfl⟩
  refine PSs.nox ?_
  exact (pss_one (ps_ret (pe_callTy U.cr_tuple (by rfl) G.b_tuple (by first | rfl | kernel_rfl) (pa_cons (pe_lc (own := [("j", 1)]) rfl nd (pi_range1 (by rfl) G.b_range (pa_cons (pe_ifExp (pt_cmpR op_gt (pe_callB cr_len (by rfl) G.b_len (by first | rfl | kernel_rfl) (pa_cons (pv 0) pa_nil)) pe_int (by rfl)) (pe_ix ix_u (pv 0) pe_int (fun _ _ => rfl)) pe_int) pa_nil)) (blkOk_by (own := [("j", 1)]) (by first | decide +kernel | rfl)) (fun _ _ _ _ _ => (pg_name (i := 1) nd rfl (by first | exact Or.inl rfl | exact Or.inr rfl) (by first | exact Or.inl rfl | exact Or.inr rfl))) (fun _ _ _ _ _ => pts_nil) (fun _ _ _ _ _ => (pe_callB cr_len (by rfl) G.b_len (by first | rfl | kernel_rfl) (pa_cons (pe_lc (own := [("row", 2)]) rfl nd (pi_seq (pv 0)) (blkOk_by (own := [("row", 2)]) (by first | decide +kernel | rfl)) (fun _ _ _ _ _ => (pg_name (i := 2) nd rfl (by first | exact Or.inl rfl | exact Or.inr rfl) (by first | exact Or.inl rfl | exact Or.inr rfl))) (fun _ _ _ _ _ => (pts_one (pt_cmpR op_gt (pv 2) (pv 1) (by rfl)))) (fun _ _ _ _ _ => (pv 2))) pa_nil)))) pa_nil))))
theorem sc__law_cleaned : FnScope ["rows", "row"] ["rows"] (defScope s__law_cleaned) := ⟨rfl, rfl, rfl, by decide +kernel, rfl, by decide +kernel, by decide +kernel⟩
def t__law_cleaned (K : PySem.W.Frag) : TS := (tRet (tCB (uTup K) (tCons (tLc (iSeq K (tVar 0)) (gName 1) (tTest (tOp qGt (tVar 1) (tC (.int 0)))) (tVar 1) [1]) tNil)))
theorem fn__law_cleaned (G : Glob K mg) {fd : FuncData} (F : FunD K "_law_cleaned" "_law_cleaned" (defArgs s__law_cleaned) (defBody s__law_cleaned) (defScope s__law_cleaned) [] [] (He.ga K "_law_cleaned") fd) {sp : Sp} (len : ∀ vs H Q E, sp vs H Q E → vs.length = 1)
    (rd : ∀ vs H Q E, sp vs H Q E → t__law_cleaned K { nx := fun _ H' => Q .non H', rt := Q } (start ["rows", "row"] vs) H) : Has P w K mg base "_law_cleaned" 1 ["rows"] sp := by
  have nd := (sc__law_cleaned).nd
  refine ⟨G.g__law_cleaned, F.kp, fd, F.ok sc__law_cleaned len (fun cdv A outer s H vs Q E hr h => ⟨t__law_cleaned K, ?_, rd vs H Q E h⟩), F.bindsN fun _ _ _ _ _ _ us hl => match us, hl with | [_], _ => rfl⟩
  refine PSs.nox ?_
  exact (pss_one (ps_ret (pe_callTy U.cr_tuple (by rfl) G.b_tuple (by first | rfl | kernel_rfl) (pa_cons (pe_lc (own := [("row", 1)]) rfl nd (pi_seq (pv 0)) (blkOk_by (own := [("row", 1)]) (by first | decide +kernel | rfl)) (fun _ _ _ _ _ => (pg_name (i := 1) nd rfl (by first | exact Or.inl rfl | exact Or.inr rfl) (by first | exact Or.inl rfl | exact Or.inr rfl))) (fun _ _ _ _ _ => (pts_one (pt_cmpR op_gt (pv 1) pe_int (by rfl)))) (fun _ _ _ _ _ => (pv 1))) pa_nil))))
theorem sc__law_strips : FnScope ["lam", "made", "rows", "i"] ["lam"] (defScope s__law_strips) := ⟨rfl, rfl, rfl, by decide +kernel, rfl, by decide +kernel, by decide +kernel⟩
def t__law_strips (K : PySem.W.Frag) (sp__law_cleaned : Sp) : TS := (tSeq (tAsg (tLst tNil) (gName 1))
  (tSeq (tAsg (tOp (uAdd K) (tCB (uList K) (tCons (tVar 0) tNil)) (tLst (tCons (tC (.int 0)) (tCons (tC (.int 0)) tNil)))) (gName 2))
  (tSeq (tFor (iRng1 (tCons (tCB (uLen K) (tCons (tVar 0) tNil)) tNil)) (gName 3) (tSeq (tIfS (tTest (tOp qGe (tOp qSub (tOp (uIx K) (tVar 2) (tVar 3)) (tC (.int 2))) (tOp (uIx K) (tVar 2) (tOp (uAdd K) (tVar 3) (tC (.int 1)))))) (tDrop (tBM K "list" rAppend (tVar 1) (tCons (tTup (tCons (tCall sp__law_cleaned [] E0 (tCons (tOp (uAdd K) (tOp (uAdd K) (tSl (rSl K) (tVar 2) tNoPart (tPart (tVar 3))) (tLst (tCons (tOp qSub (tOp (uIx K) (tVar 2) (tVar 3)) (tC (.int 2))) tNil))) (tSl (rSl K) (tVar 2) (tPart (tOp (uAdd K) (tVar 3) (tC (.int 1)))) tNoPart)) tNil)) (tCons (tC (.int 1)) tNil))) tNil))) tNext)
  (tIfS (tAnd (tTest (tOp (uEq K) (tOp (uIx K) (tVar 2) (tVar 3)) (tOp (uIx K) (tVar 2) (tOp (uAdd K) (tVar 3) (tC (.int 1)))))) (tTest (tOp qGe (tOp qSub (tOp (uIx K) (tVar 2) (tVar 3)) (tC (.int 1))) (tOp (uIx K) (tVar 2) (tOp (uAdd K) (tVar 3) (tC (.int 2))))))) (tDrop (tBM K "list" rAppend (tVar 1) (tCons (tTup (tCons (tCall sp__law_cleaned [] E0 (tCons (tOp (uAdd K) (tOp (uAdd K) (tSl (rSl K) (tVar 2) tNoPart (tPart (tVar 3))) (tLst (tCons (tOp qSub (tOp (uIx K) (tVar 2) (tVar 3)) (tC (.int 1))) (tCons (tOp qSub (tOp (uIx K) (tVar 2) (tVar 3)) (tC (.int 1))) tNil)))) (tSl (rSl K) (tVar 2) (tPart (tOp (uAdd K) (tVar 3) (tC (.int 2)))) tNoPart)) tNil)) (tCons (tOp qSub (tC (.int 0)) (tC (.int 1))) tNil))) tNil))) tNext)))
  (tRet (tVar 1)))))
theorem fn__law_strips (G : Glob K mg) {sp__law_cleaned : Sp} (h__law_cleaned : Has P w K mg base "_law_cleaned" 1 ["rows"] sp__law_cleaned) {fd : FuncData} (F : FunD K "_law_strips" "_law_strips" (defArgs s__law_strips) (defBody s__law_strips) (defScope s__law_strips) [] [] (He.ga K "_law_strips") fd) {sp : Sp} (len : ∀ vs H Q E, sp vs H Q E → vs.length = 1)
    (rd : ∀ vs H Q E, sp vs H Q E → t__law_strips K sp__law_cleaned { nx := fun _ H' => Q .non H', rt := Q } (start ["lam", "made", "rows", "i"] vs) H) : Has P w K mg base "_law_strips" 2 ["lam"] sp := by
  have nd := (sc__law_strips).nd
  refine ⟨G.g__law_strips, F.kp, fd, F.ok sc__law_strips len (fun cdv A outer s H vs Q E hr h => ⟨t__law_strips K sp__law_cleaned, ?_, rd vs H Q E h⟩), F.bindsN fun _ _ _ _ _ _ us hl => match us, hl with | [_], _ => rfl⟩
  refine PSs.nox ?_
  exact (pss_cons (ps_set (i := 1) nd rfl (by first | exact Or.inl rfl | exact Or.inr rfl) (pe_lst pa_nil))
      (pss_cons (ps_set (i := 2) nd rfl (by first | exact Or.inl rfl | exact Or.inr rfl) (pe_op op_uAdd (pe_callTy U.cr_list (by rfl) G.b_list (by first | rfl | kernel_rfl) (pa_cons (pv 0) pa_nil)) (pe_lst (pa_cons pe_int (pa_cons pe_int pa_nil)))))
      (pss_cons (ps_for PassesOwn.never rfl (pi_range1 (by rfl) G.b_range (pa_cons (pe_callB cr_len (by rfl) G.b_len (by first | rfl | kernel_rfl) (pa_cons (pv 0) pa_nil)) pa_nil)) (pg_name (i := 3) nd rfl (by first | exact Or.inl rfl | exact Or.inr rfl) (by first | exact Or.inl rfl | exact Or.inr rfl)) (pss_cons (ps_if (pt_cmpR op_ge (pe_op op_sub (pe_ix ix_u (pv 2) (pv 3) (fun _ _ => rfl)) pe_int) (pe_ix ix_u (pv 2) (pe_op op_uAdd (pv 3) pe_int) (fun _ _ => rfl)) (by rfl)) (pss_one (ps_expr (pe_bm PySem.F.plainAttrs_list PySem.F.slot_list_append PySem.F.type_list_append mt_append (pv 1) (pa_cons (pe_tup (pa_cons (pe_callU h__law_cleaned hr (by decide) (by rfl) passN (pa_cons (pe_op op_uAdd (pe_op op_uAdd (pe_slice sl_u (pv 2) po_none (po_some (pv 3))) (pe_lst (pa_cons (pe_op op_sub (pe_ix ix_u (pv 2) (pv 3) (fun _ _ => rfl)) pe_int) pa_nil))) (pe_slice sl_u (pv 2) (po_some (pe_op op_uAdd (pv 3) pe_int)) po_none)) pa_nil)) (pa_cons pe_int pa_nil))) pa_nil)))) pss_nil)
      (pss_one (ps_if ((pw_and (pt_cmpR (op_uEq hr.units) (pe_ix ix_u (pv 2) (pv 3) (fun _ _ => rfl)) (pe_ix ix_u (pv 2) (pe_op op_uAdd (pv 3) pe_int) (fun _ _ => rfl)) (by rfl)) (pw_and1 (pt_cmpR op_ge (pe_op op_sub (pe_ix ix_u (pv 2) (pv 3) (fun _ _ => rfl)) pe_int) (pe_ix ix_u (pv 2) (pe_op op_uAdd (pv 3) pe_int) (fun _ _ => rfl)) (by rfl))))).pt (pss_one (ps_expr (pe_bm PySem.F.plainAttrs_list PySem.F.slot_list_append PySem.F.type_list_append mt_append (pv 1) (pa_cons (pe_tup (pa_cons (pe_callU h__law_cleaned hr (by decide) (by rfl) passN (pa_cons (pe_op op_uAdd (pe_op op_uAdd (pe_slice sl_u (pv 2) po_none (po_some (pv 3))) (pe_lst (pa_cons (pe_op op_sub (pe_ix ix_u (pv 2) (pv 3) (fun _ _ => rfl)) pe_int) (pa_cons (pe_op op_sub (pe_ix ix_u (pv 2) (pv 3) (fun _ _ => rfl)) pe_int) pa_nil)))) (pe_slice sl_u (pv 2) (po_some (pe_op op_uAdd (pv 3) pe_int)) po_none)) pa_nil)) (pa_cons (pe_op op_sub pe_int pe_int) pa_nil))) pa_nil)))) pss_nil))))
      (pss_one (ps_ret (pv 1))))))
theorem sc__law_is_gap : FnScope ["lam", "n", "i"] ["lam", "n"] (defScope s__law_is_gap) := ⟨rfl, rfl, rfl, by decide +kernel, rfl, by decide +kernel, by decide +kernel⟩
def t__law_is_gap (K : PySem.W.Frag) : TS := (tRet (tOrV (tOp qLt (tVar 1) (tOp qSub (tC (.int 0)) (tCB (uLen K) (tCons (tVar 0) tNil)))) (tOp (uIn K false) (tVar 1) (tLc (iRng1 (tCons (tCB (uLen K) (tCons (tVar 0) tNil)) tNil)) (gName 2) tYes (tOp qSub (tOp qSub (tOp (uIx K) (tVar 0) (tVar 2)) (tC (.int 1))) (tVar 2)) [2]))))
theorem fn__law_is_gap (G : Glob K mg) {fd : FuncData} (F : FunD K "_law_is_gap" "_law_is_gap" (defArgs s__law_is_gap) (defBody s__law_is_gap) (defScope s__law_is_gap) [] [] (He.ga K "_law_is_gap") fd) {sp : Sp} (len : ∀ vs H Q E, sp vs H Q E → vs.length = 2)
    (rd : ∀ vs H Q E, sp vs H Q E → t__law_is_gap K { nx := fun _ H' => Q .non H', rt := Q } (start ["lam", "n", "i"] vs) H) : Has P w K mg base "_law_is_gap" 1 ["lam", "n"] sp := by
  have nd := (sc__law_is_gap).nd
  refine ⟨G.g__law_is_gap, F.kp, fd, F.ok sc__law_is_gap len (fun cdv A outer s H vs Q E hr h => ⟨t__law_is_gap K, ?_, rd vs H Q E h⟩), F.bindsN fun _ _ _ _ _ _ us hl => match us, hl with | [_, _], _ => rfl⟩
  refine PSs.nox ?_
  exact (pss_one (ps_ret (pe_or (pe_cmpR op_lt (pv 1) (pe_op op_sub pe_int (pe_callB cr_len (by rfl) G.b_len (by first | rfl | kernel_rfl) (pa_cons (pv 0) pa_nil))) (by rfl)) (pe_one (pe_cmpR op_uIn (pv 1) (pe_lc (own := [("i", 2)]) rfl nd (pi_range1 (by rfl) G.b_range (pa_cons (pe_callB cr_len (by rfl) G.b_len (by first | rfl | kernel_rfl) (pa_cons (pv 0) pa_nil)) pa_nil)) (blkOk_by (own := [("i", 2)]) (by first | decide +kernel | rfl)) (fun _ _ _ _ _ => (pg_name (i := 2) nd rfl (by first | exact Or.inl rfl | exact Or.inr rfl) (by first | exact Or.inl rfl | exact Or.inr rfl))) (fun _ _ _ _ _ => pts_nil) (fun _ _ _ _ _ => (pe_op op_sub (pe_op op_sub (pe_ix ix_u (pv 0) (pv 2) (fun _ _ => rfl)) pe_int) (pv 2)))) (by rfl))))))
theorem sc__law_stair : FnScope ["jar", "most", "left", "rows", "last", "turn"] ["jar", "most"] (defScope s__law_stair) := ⟨rfl, rfl, rfl, by decide +kernel, rfl, by decide +kernel, by decide +kernel⟩
def t__law_stair (K : PySem.W.Frag) (sp__law_draw : Sp) : TS := (tSeq (tAsg (tCall sp__law_draw [] E0 (tCons (tVar 0) (tCons (tOp (uAdd K) (tVar 1) (tC (.int 1))) tNil))) (gName 2))
  (tSeq (tAsg (tLst tNil) (gName 3))
  (tSeq (tAsg (tVar 2) (gName 4))
  (tSeq (tFor (iRng1 (tCons (tVar 1) tNil)) (gName 5) (tIfS (tTest (tOp qGt (tVar 2) (tC (.int 0)))) (tSeq (tAsg (tOp (uAdd K) (tC (.int 1)) (tCall sp__law_draw [] E0 (tCons (tVar 0) (tCons (tCB (uMin) (tCons (tVar 4) (tCons (tVar 2) tNil))) tNil)))) (gName 4))
  (tSeq (tDrop (tBM K "list" rAppend (tVar 3) (tCons (tVar 4) tNil)))
  (tAsg (tOp qSub (tVar 2) (tVar 4)) (gName 2)))) tNext))
  (tRet (tCB (uTup K) (tCons (tVar 3) tNil)))))))
theorem fn__law_stair (G : Glob K mg) {sp__law_draw : Sp} (h__law_draw : Has P w K mg base "_law_draw" 1 ["jar", "top"] sp__law_draw) {fd : FuncData} (F : FunD K "_law_stair" "_law_stair" (defArgs s__law_stair) (defBody s__law_stair) (defScope s__law_stair) [] [] (He.ga K "_law_stair") fd) {sp : Sp} (len : ∀ vs H Q E, sp vs H Q E → vs.length = 2)
    (rd : ∀ vs H Q E, sp vs H Q E → t__law_stair K sp__law_draw { nx := fun _ H' => Q .non H', rt := Q } (start ["jar", "most", "left", "rows", "last", "turn"] vs) H) : Has P w K mg base "_law_stair" 2 ["jar", "most"] sp := by
  have nd := (sc__law_stair).nd
  refine ⟨G.g__law_stair, F.kp, fd, F.ok sc__law_stair len (fun cdv A outer s H vs Q E hr h => ⟨t__law_stair K sp__law_draw, ?_, rd vs H Q E h⟩), F.bindsN fun _ _ _ _ _ _ us hl => match us, hl with | [_, _], _ => rfl⟩
  refine PSs.nox ?_
  exact (pss_cons (ps_set (i := 2) nd rfl (by first | exact Or.inl rfl | exact Or.inr rfl) (pe_callU h__law_draw hr (by decide) (by rfl) passN (pa_cons (pv 0) (pa_cons (pe_op op_uAdd (pv 1) pe_int) pa_nil))))
      (pss_cons (ps_set (i := 3) nd rfl (by first | exact Or.inl rfl | exact Or.inr rfl) (pe_lst pa_nil))
      (pss_cons (ps_set (i := 4) nd rfl (by first | exact Or.inl rfl | exact Or.inr rfl) (pv 2))
      (pss_cons (ps_for PassesOwn.never rfl (pi_range1 (by rfl) G.b_range (pa_cons (pv 1) pa_nil)) (pg_name (i := 5) nd rfl (by first | exact Or.inl rfl | exact Or.inr rfl) (by first | exact Or.inl rfl | exact Or.inr rfl)) (pss_one (ps_if (pt_cmpR op_gt (pv 2) pe_int (by rfl)) (pss_cons (ps_set (i := 4) nd rfl (by first | exact Or.inl rfl | exact Or.inr rfl) (pe_op op_uAdd pe_int (pe_callU h__law_draw hr (by decide) (by rfl) passN (pa_cons (pv 0) (pa_cons (pe_callB (U.cr_min rfl) (by rfl) G.b_min (by first | rfl | kernel_rfl) (pa_cons (pv 4) (pa_cons (pv 2) pa_nil))) pa_nil)))))
      (pss_cons (ps_expr (pe_bm PySem.F.plainAttrs_list PySem.F.slot_list_append PySem.F.type_list_append mt_append (pv 3) (pa_cons (pv 4) pa_nil)))
      (pss_one (ps_set (i := 2) nd rfl (by first | exact Or.inl rfl | exact Or.inr rfl) (pe_op op_sub (pv 2) (pv 4)))))) pss_nil)))
      (pss_one (ps_ret (pe_callTy U.cr_tuple (by rfl) G.b_tuple (by first | rfl | kernel_rfl) (pa_cons (pv 3) pa_nil))))))))
theorem sc__law_stair_in : FnScope ["jar", "lam", "way", "n"] ["jar", "lam"] (defScope s__law_stair_in) := ⟨rfl, rfl, rfl, by decide +kernel, rfl, by decide +kernel, by decide +kernel⟩
def t__law_stair_in (K : PySem.W.Frag) (sp__law_draw : Sp) : TS := (tSeq (tAsg (tCall sp__law_draw [] E0 (tCons (tVar 0) (tCons (tC (.int 3)) tNil))) (gName 2))
  (tSeq (tIfS (tTest (tOp (uEq K) (tVar 2) (tC (.int 0)))) (tRet (tVar 1)) tNext)
  (tSeq (tIfS (tTest (tOp (uEq K) (tVar 2) (tC (.int 1)))) (tRet (tCB (uList K) (tCons (tVar 1) tNil))) tNext)
  (tRet (tIf (tTest (tOp qGt (tCB (uLen K) (tCons (tVar 1) tNil)) (tC (.int 0)))) (tM1 (qJoin K) (tC (.str " ")) (tLc (iSeq K (tVar 1)) (gName 3) tYes (tCB (uStr) (tCons (tVar 3) tNil)) [3])) (tC (.str "bare")))))))
theorem fn__law_stair_in (G : Glob K mg) {sp__law_draw : Sp} (h__law_draw : Has P w K mg base "_law_draw" 1 ["jar", "top"] sp__law_draw) {fd : FuncData} (F : FunD K "_law_stair_in" "_law_stair_in" (defArgs s__law_stair_in) (defBody s__law_stair_in) (defScope s__law_stair_in) [] [] (He.ga K "_law_stair_in") fd) {sp : Sp} (len : ∀ vs H Q E, sp vs H Q E → vs.length = 2)
    (rd : ∀ vs H Q E, sp vs H Q E → t__law_stair_in K sp__law_draw { nx := fun _ H' => Q .non H', rt := Q } (start ["jar", "lam", "way", "n"] vs) H) : Has P w K mg base "_law_stair_in" 2 ["jar", "lam"] sp := by
  have nd := (sc__law_stair_in).nd
  refine ⟨G.g__law_stair_in, F.kp, fd, F.ok sc__law_stair_in len (fun cdv A outer s H vs Q E hr h => ⟨t__law_stair_in K sp__law_draw, ?_, rd vs H Q E h⟩), F.bindsN fun _ _ _ _ _ _ us hl => match us, hl with | [_, _], _ => rfl⟩
  refine PSs.nox ?_
  exact (pss_cons (ps_set (i := 2) nd rfl (by first | exact Or.inl rfl | exact Or.inr rfl) (pe_callU h__law_draw hr (by decide) (by rfl) passN (pa_cons (pv 0) (pa_cons pe_int pa_nil))))
      (pss_cons (ps_if (pt_cmpR (op_uEq hr.units) (pv 2) pe_int (by rfl)) (pss_one (ps_ret (pv 1))) pss_nil)
      (pss_cons (ps_if (pt_cmpR (op_uEq hr.units) (pv 2) pe_int (by rfl)) (pss_one (ps_ret (pe_callTy U.cr_list (by rfl) G.b_list (by first | rfl | kernel_rfl) (pa_cons (pv 1) pa_nil)))) pss_nil)
      (pss_one (ps_ret (pe_ifExp (pt_cmpR op_gt (pe_callB cr_len (by rfl) G.b_len (by first | rfl | kernel_rfl) (pa_cons (pv 1) pa_nil)) pe_int (by rfl)) (pe_join pe_str (pe_lc (own := [("n", 3)]) rfl nd (pi_seq (pv 1)) (blkOk_by (own := [("n", 3)]) (by first | decide +kernel | rfl)) (fun _ _ _ _ _ => (pg_name (i := 3) nd rfl (by first | exact Or.inl rfl | exact Or.inr rfl) (by first | exact Or.inl rfl | exact Or.inr rfl))) (fun _ _ _ _ _ => pts_nil) (fun _ _ _ _ _ => (pe_callTy U.cr_str (by rfl) G.b_str (by first | rfl | kernel_rfl) (pa_cons (pv 3) pa_nil))))) pe_str))))))
theorem sc__law_bent_stair : FnScope ["jar", "lam", "rows", "at", "way", "words", "n"] ["jar", "lam"] (defScope s__law_bent_stair) := ⟨rfl, rfl, rfl, by decide +kernel, rfl, by decide +kernel, by decide +kernel⟩
def t__law_bent_stair (K : PySem.W.Frag) (sp__law_draw : Sp) (sp__law_pick : Sp) : TS := (tSeq (tAsg (tIf (tTest (tOp qGt (tCB (uLen K) (tCons (tVar 1) tNil)) (tC (.int 0)))) (tCB (uList K) (tCons (tVar 1) tNil)) (tLst (tCons (tC (.int 2)) tNil))) (gName 2))
  (tSeq (tAsg (tCall sp__law_draw [] E0 (tCons (tVar 0) (tCons (tCB (uLen K) (tCons (tVar 2) tNil)) tNil))) (gName 3))
  (tSeq (tAsg (tCall sp__law_draw [] E0 (tCons (tVar 0) (tCons (tC (.int 4)) tNil))) (gName 4))
  (tSeq (tIfS (tAnd (tTest (tOp (uEq K) (tVar 4) (tC (.int 0)))) (tTest (tOp qGt (tVar 3) (tC (.int 0))))) (tSeq (tAsg (tOp (uAdd K) (tOp (uAdd K) (tOp (uIx K) (tVar 2) (tOp qSub (tVar 3) (tC (.int 1)))) (tC (.int 1))) (tCall sp__law_draw [] E0 (tCons (tVar 0) (tCons (tC (.int 2)) tNil)))) (gSub (tVar 2) (tVar 3) rSetL))
  (tRet (tTup (tCons (tCB (uTup K) (tCons (tVar 2) tNil)) (tCons (tVar 3) tNil))))) tNext)
  (tSeq (tIfS (tTest (tOp (uEq K) (tVar 4) (tC (.int 1)))) (tSeq (tAsg (tLc (iSeq K (tVar 2)) (gName 6) tYes (tCB (uStr) (tCons (tVar 6) tNil)) [6]) (gName 5))
  (tSeq (tAsg (tCall sp__law_pick [] E0 (tCons (tVar 0) (tCons (tLst (tCons (tC (.str "0")) (tCons (tC (.str "x")) (tCons (tC (.str "-1")) (tCons (tC (.str "None")) tNil))))) tNil))) (gSub (tVar 5) (tVar 3) rSetL))
  (tRet (tTup (tCons (tM1 (qJoin K) (tC (.str " ")) (tVar 5)) (tCons (tVar 3) tNil)))))) tNext)
  (tSeq (tAsg (tCall sp__law_pick [] E0 (tCons (tVar 0) (tCons (tLst (tCons (tC (.int 0)) (tCons (tOp qSub (tC (.int 0)) (tC (.int 1))) (tCons (tC (.bl true)) (tCons (tC .non) (tCons (tC (.str "1")) (tCons (tTup (tCons (tC (.int 1)) tNil)) (tCons (tOp qSub (tC (.int 0)) (tC (.int 7))) tNil)))))))) tNil))) (gSub (tVar 2) (tVar 3) rSetL))
  (tRet (tTup (tCons (tIf (tTest (tOp (uEq K) (tVar 4) (tC (.int 2)))) (tVar 2) (tCB (uTup K) (tCons (tVar 2) tNil))) (tCons (tVar 3) tNil))))))))))
theorem fn__law_bent_stair (G : Glob K mg) {sp__law_draw : Sp} (h__law_draw : Has P w K mg base "_law_draw" 1 ["jar", "top"] sp__law_draw) {sp__law_pick : Sp} (h__law_pick : Has P w K mg base "_law_pick" 2 ["jar", "menu"] sp__law_pick) {fd : FuncData} (F : FunD K "_law_bent_stair" "_law_bent_stair" (defArgs s__law_bent_stair) (defBody s__law_bent_stair) (defScope s__law_bent_stair) [] [] (He.ga K "_law_bent_stair") fd) {sp : Sp} (len : ∀ vs H Q E, sp vs H Q E → vs.length = 2)
    (rd : ∀ vs H Q E, sp vs H Q E → t__law_bent_stair K sp__law_draw sp__law_pick { nx := fun _ H' => Q .non H', rt := Q } (start ["jar", "lam", "rows", "at", "way", "words", "n"] vs) H) : Has P w K mg base "_law_bent_stair" 3 ["jar", "lam"] sp := by
  have nd := (sc__law_bent_stair).nd
  refine ⟨G.g__law_bent_stair, F.kp, fd, F.ok sc__law_bent_stair len (fun cdv A outer s H vs Q E hr h => ⟨t__law_bent_stair K sp__law_draw sp__law_pick, ?_, rd vs H Q E h⟩), F.bindsN fun _ _ _ _ _ _ us hl => match us, hl with | [_, _], _ => rfl⟩
  refine PSs.nox ?_
  exact (pss_cons (ps_set (i := 2) nd rfl (by first | exact Or.inl rfl | exact Or.inr rfl) (pe_ifExp (pt_cmpR op_gt (pe_callB cr_len (by rfl) G.b_len (by first | rfl | kernel_rfl) (pa_cons (pv 1) pa_nil)) pe_int (by rfl)) (pe_callTy U.cr_list (by rfl) G.b_list (by first | rfl | kernel_rfl) (pa_cons (pv 1) pa_nil)) (pe_lst (pa_cons pe_int pa_nil))))
      (pss_cons (ps_set (i := 3) nd rfl (by first | exact Or.inl rfl | exact Or.inr rfl) (pe_callU h__law_draw hr (by decide) (by rfl) passN (pa_cons (pv 0) (pa_cons (pe_callB cr_len (by rfl) G.b_len (by first | rfl | kernel_rfl) (pa_cons (pv 2) pa_nil)) pa_nil))))
      (pss_cons (ps_set (i := 4) nd rfl (by first | exact Or.inl rfl | exact Or.inr rfl) (pe_callU h__law_draw hr (by decide) (by rfl) passN (pa_cons (pv 0) (pa_cons pe_int pa_nil))))
      (pss_cons (ps_if ((pw_and (pt_cmpR (op_uEq hr.units) (pv 4) pe_int (by rfl)) (pw_and1 (pt_cmpR op_gt (pv 3) pe_int (by rfl))))).pt (pss_cons (ps_asg (pe_op op_uAdd (pe_op op_uAdd (pe_ix ix_u (pv 2) (pe_op op_sub (pv 3) pe_int) (fun _ _ => rfl)) pe_int) (pe_callU h__law_draw hr (by decide) (by rfl) passN (pa_cons (pv 0) (pa_cons pe_int pa_nil)))) (pg_sub (pv 2) (pv 3) set_list))
      (pss_one (ps_ret (pe_tup (pa_cons (pe_callTy U.cr_tuple (by rfl) G.b_tuple (by first | rfl | kernel_rfl) (pa_cons (pv 2) pa_nil)) (pa_cons (pv 3) pa_nil)))))) pss_nil)
      (pss_cons (ps_if (pt_cmpR (op_uEq hr.units) (pv 4) pe_int (by rfl)) (pss_cons (by first | exact (ps_setLc (i := 5) (own := [("n", 6)]) rfl nd rfl rfl (sw_true rfl rfl rfl (by decide +kernel)) (pi_seq (pv 2)) (blkOk_by (own := [("n", 6)]) (by first | decide +kernel | rfl)) (fun _ _ _ _ _ => (pg_name (i := 6) nd rfl (by first | exact Or.inl rfl | exact Or.inr rfl) (by first | exact Or.inl rfl | exact Or.inr rfl))) (fun _ _ _ _ _ => pts_nil) (fun _ _ _ _ _ => (pe_callTy U.cr_str (by rfl) G.b_str (by first | rfl | kernel_rfl) (pa_cons (pv 6) pa_nil)))) | exact (ps_set (i := 5) nd rfl (by first | exact Or.inl rfl | exact Or.inr rfl) (pe_lc (own := [("n", 6)]) rfl nd (pi_seq (pv 2)) (blkOk_by (own := [("n", 6)]) (by first | decide +kernel | rfl)) (fun _ _ _ _ _ => (pg_name (i := 6) nd rfl (by first | exact Or.inl rfl | exact Or.inr rfl) (by first | exact Or.inl rfl | exact Or.inr rfl))) (fun _ _ _ _ _ => pts_nil) (fun _ _ _ _ _ => (pe_callTy U.cr_str (by rfl) G.b_str (by first | rfl | kernel_rfl) (pa_cons (pv 6) pa_nil))))))
      (pss_cons (ps_asg (pe_callU h__law_pick hr (by decide) (by rfl) passN (pa_cons (pv 0) (pa_cons (pe_lst (pa_cons pe_str (pa_cons pe_str (pa_cons pe_str (pa_cons pe_str pa_nil))))) pa_nil))) (pg_sub (pv 5) (pv 3) set_list))
      (pss_one (ps_ret (pe_tup (pa_cons (pe_join pe_str (pv 5)) (pa_cons (pv 3) pa_nil))))))) pss_nil)
      (pss_cons (ps_asg (pe_callU h__law_pick hr (by decide) (by rfl) passN (pa_cons (pv 0) (pa_cons (pe_lst (pa_cons pe_int (pa_cons (pe_op op_sub pe_int pe_int) (pa_cons pe_bl (pa_cons pe_non (pa_cons pe_str (pa_cons (pe_tup (pa_cons pe_int pa_nil)) (pa_cons (pe_op op_sub pe_int pe_int) pa_nil)))))))) pa_nil))) (pg_sub (pv 2) (pv 3) set_list))
      (pss_one (ps_ret (pe_tup (pa_cons (pe_ifExp (pt_cmpR (op_uEq hr.units) (pv 4) pe_int (by rfl)) (pv 2) (pe_callTy U.cr_tuple (by rfl) G.b_tuple (by first | rfl | kernel_rfl) (pa_cons (pv 2) pa_nil))) (pa_cons (pv 3) pa_nil)))))))))))
theorem sc__law_spot : FnScope ["jar", "lam"] ["jar", "lam"] (defScope s__law_spot) := ⟨rfl, rfl, rfl, by decide +kernel, rfl, by decide +kernel, by decide +kernel⟩
def t__law_spot (K : PySem.W.Frag) (sp__law_draw : Sp) (sp__law_reach : Sp) : TS := (tSeq (tIfS (tTest (tOp (uEq K) (tCall sp__law_draw [] E0 (tCons (tVar 0) (tCons (tC (.int 6)) tNil))) (tC (.int 0)))) (tRet (tCall sp__law_reach [] E0 (tCons (tVar 0) (tCons (tOp qSub (tC (.int 0)) (tC (.int 60))) (tCons (tC (.int 60)) tNil))))) tNext)
  (tRet (tCall sp__law_reach [] E0 (tCons (tVar 0) (tCons (tOp qSub (tOp qSub (tC (.int 0)) (tCB (uLen K) (tCons (tVar 1) tNil))) (tC (.int 3))) (tCons (tOp (uAdd K) (tIf (tTest (tOp qGt (tCB (uLen K) (tCons (tVar 1) tNil)) (tC (.int 0)))) (tOp (uIx K) (tVar 1) (tC (.int 0))) (tC (.int 0))) (tC (.int 3))) tNil))))))
theorem fn__law_spot (G : Glob K mg) {sp__law_draw : Sp} (h__law_draw : Has P w K mg base "_law_draw" 1 ["jar", "top"] sp__law_draw) {sp__law_reach : Sp} (h__law_reach : Has P w K mg base "_law_reach" 2 ["jar", "least", "most"] sp__law_reach) {fd : FuncData} (F : FunD K "_law_spot" "_law_spot" (defArgs s__law_spot) (defBody s__law_spot) (defScope s__law_spot) [] [] (He.ga K "_law_spot") fd) {sp : Sp} (len : ∀ vs H Q E, sp vs H Q E → vs.length = 2)
    (rd : ∀ vs H Q E, sp vs H Q E → t__law_spot K sp__law_draw sp__law_reach { nx := fun _ H' => Q .non H', rt := Q } (start ["jar", "lam"] vs) H) : Has P w K mg base "_law_spot" 3 ["jar", "lam"] sp := by
  have nd := (sc__law_spot).nd
  refine ⟨G.g__law_spot, F.kp, fd, F.ok sc__law_spot len (fun cdv A outer s H vs Q E hr h => ⟨t__law_spot K sp__law_draw sp__law_reach, ?_, rd vs H Q E h⟩), F.bindsN fun _ _ _ _ _ _ us hl => match us, hl with | [_, _], _ => rfl⟩
  refine PSs.nox ?_
  exact (pss_cons (ps_if (pt_cmpR (op_uEq hr.units) (pe_callU h__law_draw hr (by decide) (by rfl) passN (pa_cons (pv 0) (pa_cons pe_int pa_nil))) pe_int (by rfl)) (pss_one (ps_ret (pe_callU h__law_reach hr (by decide) (by rfl) passN (pa_cons (pv 0) (pa_cons (pe_op op_sub pe_int pe_int) (pa_cons pe_int pa_nil)))))) pss_nil)
      (pss_one (ps_ret (pe_callU h__law_reach hr (by decide) (by rfl) passN (pa_cons (pv 0) (pa_cons (pe_op op_sub (pe_op op_sub pe_int (pe_callB cr_len (by rfl) G.b_len (by first | rfl | kernel_rfl) (pa_cons (pv 1) pa_nil))) pe_int) (pa_cons (pe_op op_uAdd (pe_ifExp (pt_cmpR op_gt (pe_callB cr_len (by rfl) G.b_len (by first | rfl | kernel_rfl) (pa_cons (pv 1) pa_nil)) pe_int (by rfl)) (pe_ix ix_u (pv 1) pe_int (fun _ _ => rfl)) pe_int) pe_int) pa_nil)))))))
theorem sc__law_core_of : FnScope ["jar", "lam", "turn", "ways"] ["jar", "lam"] (defScope s__law_core_of) := ⟨rfl, rfl, rfl, by decide +kernel, rfl, by decide +kernel, by decide +kernel⟩
def t__law_core_of (K : PySem.W.Frag) (sp__law_strips : Sp) (sp__law_pick : Sp) : TS := (tSeq (tFor (iRng1 (tCons (tC (.int 16)) tNil)) (gName 2) (tSeq (tAsg (tCall sp__law_strips [] E0 (tCons (tVar 1) tNil)) (gName 3))
  (tSeq (tIfS (tTest (tOp (uEq K) (tVar 3) (tLst tNil))) tBreak tNext)
  (tAsg (tOp (uIx K) (tCall sp__law_pick [] E0 (tCons (tVar 0) (tCons (tVar 3) tNil))) (tC (.int 0))) (gName 1)))))
  (tRet (tVar 1)))
theorem fn__law_core_of (G : Glob K mg) {sp__law_strips : Sp} (h__law_strips : Has P w K mg base "_law_strips" 2 ["lam"] sp__law_strips) {sp__law_pick : Sp} (h__law_pick : Has P w K mg base "_law_pick" 2 ["jar", "menu"] sp__law_pick) {fd : FuncData} (F : FunD K "_law_core_of" "_law_core_of" (defArgs s__law_core_of) (defBody s__law_core_of) (defScope s__law_core_of) [] [] (He.ga K "_law_core_of") fd) {sp : Sp} (len : ∀ vs H Q E, sp vs H Q E → vs.length = 2)
    (rd : ∀ vs H Q E, sp vs H Q E → t__law_core_of K sp__law_strips sp__law_pick { nx := fun _ H' => Q .non H', rt := Q } (start ["jar", "lam", "turn", "ways"] vs) H) : Has P w K mg base "_law_core_of" 3 ["jar", "lam"] sp := by
  have nd := (sc__law_core_of).nd
  refine ⟨G.g__law_core_of, F.kp, fd, F.ok sc__law_core_of len (fun cdv A outer s H vs Q E hr h => ⟨t__law_core_of K sp__law_strips sp__law_pick, ?_, rd vs H Q E h⟩), F.bindsN fun _ _ _ _ _ _ us hl => match us, hl with | [_, _], _ => rfl⟩
  refine PSs.nox ?_
  exact (pss_cons (ps_for PassesOwn.never rfl (pi_range1 (by rfl) G.b_range (pa_cons pe_int pa_nil)) (pg_name (i := 2) nd rfl (by first | exact Or.inl rfl | exact Or.inr rfl) (by first | exact Or.inl rfl | exact Or.inr rfl)) (pss_cons (ps_set (i := 3) nd rfl (by first | exact Or.inl rfl | exact Or.inr rfl) (pe_callU h__law_strips hr (by decide) (by rfl) passN (pa_cons (pv 1) pa_nil)))
      (pss_cons (ps_if (pt_cmpR (op_uEq hr.units) (pv 3) (pe_lst pa_nil) (by rfl)) (pss_one ps_break) pss_nil)
      (pss_one (ps_set (i := 1) nd rfl (by first | exact Or.inl rfl | exact Or.inr rfl) (pe_ix ix_u (pe_callU h__law_pick hr (by decide) (by rfl) passN (pa_cons (pv 0) (pa_cons (pv 3) pa_nil))) pe_int (fun _ _ => rfl)))))))
      (pss_one (ps_ret (pv 1))))
theorem sc__law_hooks_walked : FnScope ["lam", "places", "i", "j", "one"] ["lam"] (defScope s__law_hooks_walked) := ⟨rfl, rfl, rfl, by decide +kernel, rfl, by decide +kernel, by decide +kernel⟩
def t__law_hooks_walked (K : PySem.W.Frag) (sp__law_cells_of : Sp) : TS := (tSeq (tAsg (tCall sp__law_cells_of [] E0 (tCons (tVar 0) tNil)) (gName 1))
  (tRet (tCB (rSortedI K) (tCons (tLc (iSeq K (tVar 1)) (gTup K 2 (gCons (gName 2) (gCons (gName 3) gNil))) tYes (tCB (uLen K) (tCons (tLc (iSeq K (tVar 1)) (gName 4) (tOr (tAnd (tTest (tOp (uEq K) (tOp (uIx K) (tVar 4) (tC (.int 0))) (tVar 2))) (tTest (tOp qGe (tOp (uIx K) (tVar 4) (tC (.int 1))) (tVar 3)))) (tAnd (tTest (tOp (uEq K) (tOp (uIx K) (tVar 4) (tC (.int 1))) (tVar 3))) (tTest (tOp qGt (tOp (uIx K) (tVar 4) (tC (.int 0))) (tVar 2))))) (tVar 4) [4]) tNil)) [2, 3]) tNil))))
theorem fn__law_hooks_walked (G : Glob K mg) {sp__law_cells_of : Sp} (h__law_cells_of : Has P w K mg base "_law_cells_of" 1 ["lam"] sp__law_cells_of) {fd : FuncData} (F : FunD K "_law_hooks_walked" "_law_hooks_walked" (defArgs s__law_hooks_walked) (defBody s__law_hooks_walked) (defScope s__law_hooks_walked) [] [] (He.ga K "_law_hooks_walked") fd) {sp : Sp} (len : ∀ vs H Q E, sp vs H Q E → vs.length = 1)
    (rd : ∀ vs H Q E, sp vs H Q E → t__law_hooks_walked K sp__law_cells_of { nx := fun _ H' => Q .non H', rt := Q } (start ["lam", "places", "i", "j", "one"] vs) H) : Has P w K mg base "_law_hooks_walked" 2 ["lam"] sp := by
  have nd := (sc__law_hooks_walked).nd
  refine ⟨G.g__law_hooks_walked, F.kp, fd, F.ok sc__law_hooks_walked len (fun cdv A outer s H vs Q E hr h => ⟨t__law_hooks_walked K sp__law_cells_of, ?_, rd vs H Q E h⟩), F.bindsN fun _ _ _ _ _ _ us hl => match us, hl with | [_], _ => rfl⟩
  refine PSs.nox ?_
  exact (pss_cons (ps_set (i := 1) nd rfl (by first | exact Or.inl rfl | exact Or.inr rfl) (pe_callU h__law_cells_of hr (by decide) (by rfl) passN (pa_cons (pv 0) pa_nil)))
      (pss_one (ps_ret (pe_callB cr_sortedI (by rfl) G.b_sorted (by first | rfl | kernel_rfl) (pa_cons (pe_lc (own := [("i", 2), ("j", 3)]) rfl nd (pi_seq (pv 1)) (blkOk_by (own := [("i", 2), ("j", 3)]) (by first | decide +kernel | rfl)) (fun _ _ _ _ _ => (pg_tup rfl (pgs_cons (pg_name (i := 2) nd rfl (by first | exact Or.inl rfl | exact Or.inr rfl) (by first | exact Or.inl rfl | exact Or.inr rfl)) (pgs_cons (pg_name (i := 3) nd rfl (by first | exact Or.inl rfl | exact Or.inr rfl) (by first | exact Or.inl rfl | exact Or.inr rfl)) pgs_nil)))) (fun _ _ _ _ _ => pts_nil) (fun _ _ _ _ _ => (pe_callB cr_len (by rfl) G.b_len (by first | rfl | kernel_rfl) (pa_cons (pe_lc (own := [("one", 4)]) rfl nd (pi_seq (pv 1)) (blkOk_by (own := [("one", 4)]) (by first | decide +kernel | rfl)) (fun _ _ _ _ _ => (pg_name (i := 4) nd rfl (by first | exact Or.inl rfl | exact Or.inr rfl) (by first | exact Or.inl rfl | exact Or.inr rfl))) (fun _ _ _ _ _ => (pts_one ((pw_or ((pw_and (pt_cmpR (op_uEq hr.units) (pe_ix ix_u (pv 4) pe_int (fun _ _ => rfl)) (pv 2) (by rfl)) (pw_and1 (pt_cmpR op_ge (pe_ix ix_u (pv 4) pe_int (fun _ _ => rfl)) (pv 3) (by rfl))))).pt (pw_or1 ((pw_and (pt_cmpR (op_uEq hr.units) (pe_ix ix_u (pv 4) pe_int (fun _ _ => rfl)) (pv 3) (by rfl)) (pw_and1 (pt_cmpR op_gt (pe_ix ix_u (pv 4) pe_int (fun _ _ => rfl)) (pv 2) (by rfl))))).pt))).pt)) (fun _ _ _ _ _ => (pv 4))) pa_nil)))) pa_nil)))))
theorem sc__law_parts_told : FnScope ["jar", "lam", "rows", "due", "told", "left"] ["jar", "lam"] (defScope s__law_parts_told) := ⟨rfl, rfl, rfl, by decide +kernel, rfl, by decide +kernel, by decide +kernel⟩
def t__law_parts_told (K : PySem.W.Frag) (sp__law_like : Sp) (sp_read_shape : Sp) (sp__law_stair_in : Sp) (sp__law_columns : Sp) (sp_turned : Sp) (sp__law_hooks_walked : Sp) (sp_hooks : Sp) (sp__law_core_of : Sp) (sp_core : Sp) : TS := (tSeq (tAsg (tCB (uList K) (tCons (tVar 1) tNil)) (gName 2))
  (tSeq (tIfS (tOr (tNot (L2.tB (tCall sp__law_like [] E0 (tCons (tCall sp_read_shape [] E0 (tCons (tCall sp__law_stair_in [] E0 (tCons (tVar 0) (tCons (tVar 1) tNil))) tNil)) (tCons (tVar 1) tNil))))) (tNot (L2.tB (tCall sp__law_like [] E0 (tCons (tCall sp_turned [] E0 (tCons (tVar 2) tNil)) (tCons (tCall sp__law_columns [] E0 (tCons (tVar 1) tNil)) tNil)))))) (tRet (tC (.bl false))) tNext)
  (tSeq (tAsg (tCall sp__law_hooks_walked [] E0 (tCons (tVar 1) tNil)) (gName 3))
  (tSeq (tAsg (tCall sp_hooks [] E0 (tCons (tVar 2) tNil)) (gName 4))
  (tSeq (tIfS (tOr (tTest (tOp (uNe K) (tVar 2) (tCB (uList K) (tCons (tVar 1) tNil)))) (tNot (L2.tB (tCall sp__law_like [] E0 (tCons (tVar 4) (tCons (tVar 3) tNil)))))) (tRet (tC (.bl false))) tNext)
  (tSeq (tDrop (tBM K "list" rAppend (tVar 4) (tCons (tC (.int 0)) tNil)))
  (tSeq (tIfS (tNot (L2.tB (tCall sp__law_like [] E0 (tCons (tCallK0 1 sp_hooks (fun zs => zs) E0 (tCons (tCall sp__law_stair_in [] E0 (tCons (tVar 0) (tCons (tVar 1) tNil))) tNil)) (tCons (tVar 3) tNil))))) (tRet (tC (.bl false))) tNext)
  (tSeq (tAsg (tCall sp__law_core_of [] E0 (tCons (tVar 0) (tCons (tVar 1) tNil))) (gName 5))
  (tSeq (tIfS (tOr (tNot (L2.tB (tCall sp__law_like [] E0 (tCons (tCall sp_core [] E0 (tCons (tCall sp__law_stair_in [] E0 (tCons (tVar 0) (tCons (tVar 1) tNil))) tNil)) (tCons (tVar 5) tNil))))) (tNot (L2.tB (tCall sp__law_like [] E0 (tCons (tCall sp_core [] E0 (tCons (tVar 5) tNil)) (tCons (tVar 5) tNil)))))) (tRet (tC (.bl false))) tNext)
  (tRet (tAndV (tCall sp__law_like [] E0 (tCons (tCallK0 1 sp_turned (fun zs => zs) E0 (tCons (tCall sp__law_columns [] E0 (tCons (tVar 1) tNil)) tNil)) (tCons (tVar 1) tNil))) (tCall sp__law_like [] E0 (tCons (tCall sp_hooks [] E0 (tCons (tCall sp__law_columns [] E0 (tCons (tVar 1) tNil)) tNil)) (tCons (tVar 3) tNil))))))))))))))
theorem fn__law_parts_told (G : Glob K mg) {sp__law_like : Sp} (h__law_like : Has P w K mg base "_law_like" 5 ["told", "due"] sp__law_like) {sp_read_shape : Sp} (h_read_shape : Has P w K mg base "read_shape" 6 ["thing"] sp_read_shape) {sp__law_stair_in : Sp} (h__law_stair_in : Has P w K mg base "_law_stair_in" 2 ["jar", "lam"] sp__law_stair_in) {sp__law_columns : Sp} (h__law_columns : Has P w K mg base "_law_columns" 1 ["lam"] sp__law_columns) {sp_turned : Sp} (h_turned : Has P w K mg base "turned" 7 ["shape"] sp_turned) {sp__law_hooks_walked : Sp} (h__law_hooks_walked : Has P w K mg base "_law_hooks_walked" 2 ["lam"] sp__law_hooks_walked) {sp_hooks : Sp} (h_hooks : Has P w K mg base "hooks" 7 ["shape"] sp_hooks) {sp__law_core_of : Sp} (h__law_core_of : Has P w K mg base "_law_core_of" 3 ["jar", "lam"] sp__law_core_of) {sp_core : Sp} (h_core : Has P w K mg base "core" 7 ["shape"] sp_core) (k_hooks_shape : HasK0 P w K mg base "hooks" 7 ["shape"] ["shape"] (fun zs => zs) (fun zs => zs) sp_hooks) (k_turned_shape : HasK0 P w K mg base "turned" 7 ["shape"] ["shape"] (fun zs => zs) (fun zs => zs) sp_turned) {fd : FuncData} (F : FunD K "_law_parts_told" "_law_parts_told" (defArgs s__law_parts_told) (defBody s__law_parts_told) (defScope s__law_parts_told) [] [] (He.ga K "_law_parts_told") fd) {sp : Sp} (len : ∀ vs H Q E, sp vs H Q E → vs.length = 2)
    (rd : ∀ vs H Q E, sp vs H Q E → t__law_parts_told K sp__law_like sp_read_shape sp__law_stair_in sp__law_columns sp_turned sp__law_hooks_walked sp_hooks sp__law_core_of sp_core { nx := fun _ H' => Q .non H', rt := Q } (start ["jar", "lam", "rows", "due", "told", "left"] vs) H) : Has P w K mg base "_law_parts_told" 8 ["jar", "lam"] sp := by
  have nd := (sc__law_parts_told).nd
  refine ⟨G.g__law_parts_told, F.kp, fd, F.ok sc__law_parts_told len (fun cdv A outer s H vs Q E hr h => ⟨t__law_parts_told K sp__law_like sp_read_shape sp__law_stair_in sp__law_columns sp_turned sp__law_hooks_walked sp_hooks sp__law_core_of sp_core, ?_, rd vs H Q E h⟩), F.bindsN fun _ _ _ _ _ _ us hl => match us, hl with | [_, _], _ => rfl⟩
  refine PSs.nox ?_
  exact (pss_cons (ps_set (i := 2) nd rfl (by first | exact Or.inl rfl | exact Or.inr rfl) (pe_callTy U.cr_list (by rfl) G.b_list (by first | rfl | kernel_rfl) (pa_cons (pv 1) pa_nil)))
      (pss_cons (ps_if ((pw_or (pt_not (pt_val (pe_callU h__law_like hr (by decide) (by rfl) passN (pa_cons (pe_callU h_read_shape hr (by decide) (by rfl) passN (pa_cons (pe_callU h__law_stair_in hr (by decide) (by rfl) passN (pa_cons (pv 0) (pa_cons (pv 1) pa_nil))) pa_nil)) (pa_cons (pv 1) pa_nil))))) (pw_or1 (pt_not (pt_val (pe_callU h__law_like hr (by decide) (by rfl) passN (pa_cons (pe_callU h_turned hr (by decide) (by rfl) passN (pa_cons (pv 2) pa_nil)) (pa_cons (pe_callU h__law_columns hr (by decide) (by rfl) passN (pa_cons (pv 1) pa_nil)) pa_nil)))))))).pt (pss_one (ps_ret pe_bl)) pss_nil)
      (pss_cons (ps_set (i := 3) nd rfl (by first | exact Or.inl rfl | exact Or.inr rfl) (pe_callU h__law_hooks_walked hr (by decide) (by rfl) passN (pa_cons (pv 1) pa_nil)))
      (pss_cons (ps_set (i := 4) nd rfl (by first | exact Or.inl rfl | exact Or.inr rfl) (pe_callU h_hooks hr (by decide) (by rfl) passN (pa_cons (pv 2) pa_nil)))
      (pss_cons (ps_if ((pw_or (pt_cmpR (op_uNe hr.units) (pv 2) (pe_callTy U.cr_list (by rfl) G.b_list (by first | rfl | kernel_rfl) (pa_cons (pv 1) pa_nil)) (by rfl)) (pw_or1 (pt_not (pt_val (pe_callU h__law_like hr (by decide) (by rfl) passN (pa_cons (pv 4) (pa_cons (pv 3) pa_nil)))))))).pt (pss_one (ps_ret pe_bl)) pss_nil)
      (pss_cons (ps_expr (pe_bm PySem.F.plainAttrs_list PySem.F.slot_list_append PySem.F.type_list_append mt_append (pv 4) (pa_cons pe_int pa_nil)))
      (pss_cons (ps_if (pt_not (pt_val (pe_callU h__law_like hr (by decide) (by rfl) passN (pa_cons (pe_callKU0 (ks := ["shape"]) k_hooks_shape hr (by decide) (by rfl) passN (pk_cons (pe_callU h__law_stair_in hr (by decide) (by rfl) passN (pa_cons (pv 0) (pa_cons (pv 1) pa_nil))) pk_nil)) (pa_cons (pv 3) pa_nil))))) (pss_one (ps_ret pe_bl)) pss_nil)
      (pss_cons (ps_set (i := 5) nd rfl (by first | exact Or.inl rfl | exact Or.inr rfl) (pe_callU h__law_core_of hr (by decide) (by rfl) passN (pa_cons (pv 0) (pa_cons (pv 1) pa_nil))))
      (pss_cons (ps_if ((pw_or (pt_not (pt_val (pe_callU h__law_like hr (by decide) (by rfl) passN (pa_cons (pe_callU h_core hr (by decide) (by rfl) passN (pa_cons (pe_callU h__law_stair_in hr (by decide) (by rfl) passN (pa_cons (pv 0) (pa_cons (pv 1) pa_nil))) pa_nil)) (pa_cons (pv 5) pa_nil))))) (pw_or1 (pt_not (pt_val (pe_callU h__law_like hr (by decide) (by rfl) passN (pa_cons (pe_callU h_core hr (by decide) (by rfl) passN (pa_cons (pv 5) pa_nil)) (pa_cons (pv 5) pa_nil)))))))).pt (pss_one (ps_ret pe_bl)) pss_nil)
      (pss_one (ps_ret (pe_and (pe_callU h__law_like hr (by decide) (by rfl) passN (pa_cons (pe_callKU0 (ks := ["shape"]) k_turned_shape hr (by decide) (by rfl) passN (pk_cons (pe_callU h__law_columns hr (by decide) (by rfl) passN (pa_cons (pv 1) pa_nil)) pk_nil)) (pa_cons (pv 1) pa_nil))) (pe_one (pe_callU h__law_like hr (by decide) (by rfl) passN (pa_cons (pe_callU h_hooks hr (by decide) (by rfl) passN (pa_cons (pe_callU h__law_columns hr (by decide) (by rfl) passN (pa_cons (pv 1) pa_nil)) pa_nil)) (pa_cons (pv 3) pa_nil))))))))))))))))
theorem sc__law_sites_told : FnScope ["jar", "lam", "turn", "start", "n", "due", "top", "told"] ["jar", "lam"] (defScope s__law_sites_told) := ⟨rfl, rfl, rfl, by decide +kernel, rfl, by decide +kernel, by decide +kernel⟩
def t__law_sites_told (K : PySem.W.Frag) (sp__law_spot : Sp) (sp__law_is_gap : Sp) (sp__law_like : Sp) (sp_falling : Sp) (sp__law_stair_in : Sp) (sp__law_columns : Sp) (sp__law_pick : Sp) (sp_gaps : Sp) : TS := (tSeq (tFor (iRng1 (tCons (tC (.int 6)) tNil)) (gName 2) (tSeq (tAsg (tCall sp__law_spot [] E0 (tCons (tVar 0) (tCons (tVar 1) tNil))) (gName 4))
  (tSeq (tAsg (tNotV (tCall sp__law_is_gap [] E0 (tCons (tVar 1) (tCons (tVar 4) tNil)))) (gName 5))
  (tSeq (tIfS (tNot (L2.tB (tCall sp__law_like [] E0 (tCons (tCall sp_falling [] E0 (tCons (tCall sp__law_stair_in [] E0 (tCons (tVar 0) (tCons (tVar 1) tNil))) (tCons (tVar 4) tNil))) (tCons (tVar 5) tNil))))) (tRet (tC (.bl false))) tNext)
  (tIfS (tAnd (tTest (tOp qLt (tVar 4) (tC (.int 60)))) (tNot (L2.tB (tCall sp__law_like [] E0 (tCons (tCallK0 2 sp_falling List.reverse E0 (tCons (tOp qSub (tOp qSub (tC (.int 0)) (tC (.int 1))) (tVar 4)) (tCons (tCall sp__law_columns [] E0 (tCons (tVar 1) tNil)) tNil))) (tCons (tNotV (tVar 5)) tNil)))))) (tRet (tC (.bl false))) tNext)))))
  (tSeq (tFor (iSeq K (tLst (tCons (tCall sp__law_spot [] E0 (tCons (tVar 0) (tCons (tVar 1) tNil))) (tCons (tCall sp__law_pick [] E0 (tCons (tVar 0) (tCons (tLst (tCons (tOp qSub (tC (.int 0)) (tC (.int 60))) (tCons (tOp qSub (tC (.int 0)) (tC (.int 59))) (tCons (tC (.int 0)) (tCons (tC (.int 60)) tNil))))) tNil))) (tCons (tOp qSub (tOp qSub (tC (.int 0)) (tCB (uLen K) (tCons (tVar 1) tNil))) (tC (.int 1))) tNil))))) (gName 3) (tSeq (tAsg (tIf (tTest (tOp qGt (tCB (uLen K) (tCons (tVar 1) tNil)) (tC (.int 0)))) (tOp (uIx K) (tVar 1) (tC (.int 0))) (tC (.int 0))) (gName 6))
  (tSeq (tAsg (tLc (iRng2 (tCons (tVar 3) (tCons (tOp (uAdd K) (tVar 6) (tC (.int 1))) tNil))) (gName 4) (L2.tB (tCall sp__law_is_gap [] E0 (tCons (tVar 1) (tCons (tVar 4) tNil)))) (tVar 4) [4]) (gName 5))
  (tSeq (tAsg (tCall sp_gaps [] E0 (tCons (tCall sp__law_stair_in [] E0 (tCons (tVar 0) (tCons (tVar 1) tNil))) (tCons (tVar 3) tNil))) (gName 7))
  (tSeq (tIfS (tNot (L2.tB (tCall sp__law_like [] E0 (tCons (tVar 7) (tCons (tVar 5) tNil))))) (tRet (tC (.bl false))) tNext)
  (tSeq (tDrop (tBM K "list" rAppend (tVar 7) (tCons (tC (.int 99)) tNil)))
  (tIfS (tNot (L2.tB (tCall sp__law_like [] E0 (tCons (tCallK0 2 sp_gaps List.reverse E0 (tCons (tVar 3) (tCons (tVar 1) tNil))) (tCons (tVar 5) tNil))))) (tRet (tC (.bl false))) tNext)))))))
  (tRet (tC (.bl true)))))
theorem fn__law_sites_told (G : Glob K mg) {sp__law_spot : Sp} (h__law_spot : Has P w K mg base "_law_spot" 3 ["jar", "lam"] sp__law_spot) {sp__law_is_gap : Sp} (h__law_is_gap : Has P w K mg base "_law_is_gap" 1 ["lam", "n"] sp__law_is_gap) {sp__law_like : Sp} (h__law_like : Has P w K mg base "_law_like" 5 ["told", "due"] sp__law_like) {sp_falling : Sp} (h_falling : Has P w K mg base "falling" 6 ["shape", "site"] sp_falling) {sp__law_stair_in : Sp} (h__law_stair_in : Has P w K mg base "_law_stair_in" 2 ["jar", "lam"] sp__law_stair_in) {sp__law_columns : Sp} (h__law_columns : Has P w K mg base "_law_columns" 1 ["lam"] sp__law_columns) {sp__law_pick : Sp} (h__law_pick : Has P w K mg base "_law_pick" 2 ["jar", "menu"] sp__law_pick) {sp_gaps : Sp} (h_gaps : Has P w K mg base "gaps" 6 ["shape", "low"] sp_gaps) (k_falling_site_shape : HasK0 P w K mg base "falling" 6 ["shape", "site"] ["site", "shape"] List.reverse List.reverse sp_falling) (k_gaps_low_shape : HasK0 P w K mg base "gaps" 6 ["shape", "low"] ["low", "shape"] List.reverse List.reverse sp_gaps) {fd : FuncData} (F : FunD K "_law_sites_told" "_law_sites_told" (defArgs s__law_sites_told) (defBody s__law_sites_told) (defScope s__law_sites_told) [] [] (He.ga K "_law_sites_told") fd) {sp : Sp} (len : ∀ vs H Q E, sp vs H Q E → vs.length = 2)
    (rd : ∀ vs H Q E, sp vs H Q E → t__law_sites_told K sp__law_spot sp__law_is_gap sp__law_like sp_falling sp__law_stair_in sp__law_columns sp__law_pick sp_gaps { nx := fun _ H' => Q .non H', rt := Q } (start ["jar", "lam", "turn", "start", "n", "due", "top", "told"] vs) H) : Has P w K mg base "_law_sites_told" 7 ["jar", "lam"] sp := by
  have nd := (sc__law_sites_told).nd
  refine ⟨G.g__law_sites_told, F.kp, fd, F.ok sc__law_sites_told len (fun cdv A outer s H vs Q E hr h => ⟨t__law_sites_told K sp__law_spot sp__law_is_gap sp__law_like sp_falling sp__law_stair_in sp__law_columns sp__law_pick sp_gaps, ?_, rd vs H Q E h⟩), F.bindsN fun _ _ _ _ _ _ us hl => match us, hl with | [_, _], _ => rfl⟩
  refine PSs.nox ?_
  exact (pss_cons (ps_for PassesOwn.never rfl (pi_range1 (by rfl) G.b_range (pa_cons pe_int pa_nil)) (pg_name (i := 2) nd rfl (by first | exact Or.inl rfl | exact Or.inr rfl) (by first | exact Or.inl rfl | exact Or.inr rfl)) (pss_cons (ps_set (i := 4) nd rfl (by first | exact Or.inl rfl | exact Or.inr rfl) (pe_callU h__law_spot hr (by decide) (by rfl) passN (pa_cons (pv 0) (pa_cons (pv 1) pa_nil))))
      (pss_cons (ps_set (i := 5) nd rfl (by first | exact Or.inl rfl | exact Or.inr rfl) (pe_not (pe_callU h__law_is_gap hr (by decide) (by rfl) passN (pa_cons (pv 1) (pa_cons (pv 4) pa_nil)))))
      (pss_cons (ps_if (pt_not (pt_val (pe_callU h__law_like hr (by decide) (by rfl) passN (pa_cons (pe_callU h_falling hr (by decide) (by rfl) passN (pa_cons (pe_callU h__law_stair_in hr (by decide) (by rfl) passN (pa_cons (pv 0) (pa_cons (pv 1) pa_nil))) (pa_cons (pv 4) pa_nil))) (pa_cons (pv 5) pa_nil))))) (pss_one (ps_ret pe_bl)) pss_nil)
      (pss_one (ps_if ((pw_and (pt_cmpR op_lt (pv 4) pe_int (by rfl)) (pw_and1 (pt_not (pt_val (pe_callU h__law_like hr (by decide) (by rfl) passN (pa_cons (pe_callKU0 (ks := ["site", "shape"]) k_falling_site_shape hr (by decide) (by rfl) passN (pk_cons (pe_op op_sub (pe_op op_sub pe_int pe_int) (pv 4)) (pk_cons (pe_callU h__law_columns hr (by decide) (by rfl) passN (pa_cons (pv 1) pa_nil)) pk_nil))) (pa_cons (pe_not (pv 5)) pa_nil)))))))).pt (pss_one (ps_ret pe_bl)) pss_nil))))))
      (pss_cons (ps_for PassesOwn.never rfl (pi_seq (pe_lst (pa_cons (pe_callU h__law_spot hr (by decide) (by rfl) passN (pa_cons (pv 0) (pa_cons (pv 1) pa_nil))) (pa_cons (pe_callU h__law_pick hr (by decide) (by rfl) passN (pa_cons (pv 0) (pa_cons (pe_lst (pa_cons (pe_op op_sub pe_int pe_int) (pa_cons (pe_op op_sub pe_int pe_int) (pa_cons pe_int (pa_cons pe_int pa_nil))))) pa_nil))) (pa_cons (pe_op op_sub (pe_op op_sub pe_int (pe_callB cr_len (by rfl) G.b_len (by first | rfl | kernel_rfl) (pa_cons (pv 1) pa_nil))) pe_int) pa_nil))))) (pg_name (i := 3) nd rfl (by first | exact Or.inl rfl | exact Or.inr rfl) (by first | exact Or.inl rfl | exact Or.inr rfl)) (pss_cons (ps_set (i := 6) nd rfl (by first | exact Or.inl rfl | exact Or.inr rfl) (pe_ifExp (pt_cmpR op_gt (pe_callB cr_len (by rfl) G.b_len (by first | rfl | kernel_rfl) (pa_cons (pv 1) pa_nil)) pe_int (by rfl)) (pe_ix ix_u (pv 1) pe_int (fun _ _ => rfl)) pe_int))
      (pss_cons (by first | exact (ps_setLc (i := 5) (own := [("n", 4)]) rfl nd rfl rfl (sw_true rfl rfl rfl (by decide +kernel)) (pi_range2 (by rfl) G.b_range (pa_cons (pv 3) (pa_cons (pe_op op_uAdd (pv 6) pe_int) pa_nil))) (blkOk_by (own := [("n", 4)]) (by first | decide +kernel | rfl)) (fun _ _ _ _ _ => (pg_name (i := 4) nd rfl (by first | exact Or.inl rfl | exact Or.inr rfl) (by first | exact Or.inl rfl | exact Or.inr rfl))) (fun _ _ _ _ _ => (pts_one (pt_val (pe_callU h__law_is_gap hr (by decide) (by rfl) passN (pa_cons (pv 1) (pa_cons (pv 4) pa_nil)))))) (fun _ _ _ _ _ => (pv 4))) | exact (ps_set (i := 5) nd rfl (by first | exact Or.inl rfl | exact Or.inr rfl) (pe_lc (own := [("n", 4)]) rfl nd (pi_range2 (by rfl) G.b_range (pa_cons (pv 3) (pa_cons (pe_op op_uAdd (pv 6) pe_int) pa_nil))) (blkOk_by (own := [("n", 4)]) (by first | decide +kernel | rfl)) (fun _ _ _ _ _ => (pg_name (i := 4) nd rfl (by first | exact Or.inl rfl | exact Or.inr rfl) (by first | exact Or.inl rfl | exact Or.inr rfl))) (fun _ _ _ _ _ => (pts_one (pt_val (pe_callU h__law_is_gap hr (by decide) (by rfl) passN (pa_cons (pv 1) (pa_cons (pv 4) pa_nil)))))) (fun _ _ _ _ _ => (pv 4)))))
      (pss_cons (ps_set (i := 7) nd rfl (by first | exact Or.inl rfl | exact Or.inr rfl) (pe_callU h_gaps hr (by decide) (by rfl) passN (pa_cons (pe_callU h__law_stair_in hr (by decide) (by rfl) passN (pa_cons (pv 0) (pa_cons (pv 1) pa_nil))) (pa_cons (pv 3) pa_nil))))
      (pss_cons (ps_if (pt_not (pt_val (pe_callU h__law_like hr (by decide) (by rfl) passN (pa_cons (pv 7) (pa_cons (pv 5) pa_nil))))) (pss_one (ps_ret pe_bl)) pss_nil)
      (pss_cons (ps_expr (pe_bm PySem.F.plainAttrs_list PySem.F.slot_list_append PySem.F.type_list_append mt_append (pv 7) (pa_cons pe_int pa_nil)))
      (pss_one (ps_if (pt_not (pt_val (pe_callU h__law_like hr (by decide) (by rfl) passN (pa_cons (pe_callKU0 (ks := ["low", "shape"]) k_gaps_low_shape hr (by decide) (by rfl) passN (pk_cons (pv 3) (pk_cons (pv 1) pk_nil))) (pa_cons (pv 5) pa_nil))))) (pss_one (ps_ret pe_bl)) pss_nil))))))))
      (pss_one (ps_ret pe_bl))))
end
end K20
end
section
set_option Elab.async false
set_option linter.all false
set_option maxRecDepth 100000
set_option maxHeartbeats 4000000
/-! printed by gen/gen.py: each def, its term and its rule -/
namespace K20
open PySem PySem.Spec PyProof.Rows L2 LamX U L2H HotX LHot LX
section
variable {P : Program} {w : World} {K : PySem.W.Frag} {mg : Str → Option Value} {base : Heap}
theorem sc__law_marks : FnScope ["e", "marks", "word", "yes"] ["e"] (defScope s__law_marks) := ⟨rfl, rfl, rfl, by decide +kernel, rfl, by decide +kernel, by decide +kernel⟩
def t__law_marks (K : PySem.W.Frag) (D a : Addr) (d : Option Addr) : TS := (tSeq (tAsg (tLst (tCons (tTup (tCons (tC (.str "BadNumber")) (tCons (tCB (rIsX K D a d) (tCons (tVar 0) (tCons (tC (.ref (He.ga K "BadNumber"))) tNil))) tNil))) (tCons (tTup (tCons (tC (.str "BadSum")) (tCons (tCB (rIsX K D a d) (tCons (tVar 0) (tCons (tC (.ref (He.ga K "BadSum"))) tNil))) tNil))) (tCons (tTup (tCons (tC (.str "BadQuotient")) (tCons (tCB (rIsX K D a d) (tCons (tVar 0) (tCons (tC (.ref (He.ga K "BadQuotient"))) tNil))) tNil))) (tCons (tTup (tCons (tC (.str "BadLandscape")) (tCons (tCB (rIsX K D a d) (tCons (tVar 0) (tCons (tC (.ref (He.ga K "BadLandscape"))) tNil))) tNil))) (tCons (tTup (tCons (tC (.str "BadWell")) (tCons (tCB (rIsX K D a d) (tCons (tVar 0) (tCons (tC (.ref (He.ga K "BadWell"))) tNil))) tNil))) (tCons (tTup (tCons (tC (.str "BadWall")) (tCons (tCB (rIsX K D a d) (tCons (tVar 0) (tCons (tC (.ref (He.ga K "BadWall"))) tNil))) tNil))) (tCons (tTup (tCons (tC (.str "BadShape")) (tCons (tCB (rIsX K D a d) (tCons (tVar 0) (tCons (tC (.ref (He.ga K "BadShape"))) tNil))) tNil))) (tCons (tTup (tCons (tC (.str "BadRoll")) (tCons (tCB (rIsX K D a d) (tCons (tVar 0) (tCons (tC (.ref (He.ga K "BadRoll"))) tNil))) tNil))) (tCons (tTup (tCons (tC (.str "BadOperator")) (tCons (tCB (rIsX K D a d) (tCons (tVar 0) (tCons (tC (.ref (He.ga K "BadOperator"))) tNil))) tNil))) (tCons (tTup (tCons (tC (.str "BadSymbol")) (tCons (tCB (rIsX K D a d) (tCons (tVar 0) (tCons (tC (.ref (He.ga K "BadSymbol"))) tNil))) tNil))) (tCons (tTup (tCons (tC (.str "BadStep")) (tCons (tCB (rIsX K D a d) (tCons (tVar 0) (tCons (tC (.ref (He.ga K "BadStep"))) tNil))) tNil))) (tCons (tTup (tCons (tC (.str "BadPaper")) (tCons (tCB (rIsX K D a d) (tCons (tVar 0) (tCons (tC (.ref (He.ga K "BadPaper"))) tNil))) tNil))) (tCons (tTup (tCons (tC (.str "BadName")) (tCons (tCB (rIsX K D a d) (tCons (tVar 0) (tCons (tC (.ref (He.ga K "BadName"))) tNil))) tNil))) (tCons (tTup (tCons (tC (.str "BadScript")) (tCons (tCB (rIsX K D a d) (tCons (tVar 0) (tCons (tC (.ref (He.ga K "BadScript"))) tNil))) tNil))) (tCons (tTup (tCons (tC (.str "Barred")) (tCons (tCB (rIsX K D a d) (tCons (tVar 0) (tCons (tC (.ref (He.ga K "Barred"))) tNil))) tNil))) (tCons (tTup (tCons (tC (.str "Unlike")) (tCons (tCB (rIsX K D a d) (tCons (tVar 0) (tCons (tC (.ref (He.ga K "Unlike"))) tNil))) tNil))) (tCons (tTup (tCons (tC (.str "HasResidue")) (tCons (tCB (rIsX K D a d) (tCons (tVar 0) (tCons (tC (.ref (He.ga K "HasResidue"))) tNil))) tNil))) (tCons (tTup (tCons (tC (.str "NotKept")) (tCons (tCB (rIsX K D a d) (tCons (tVar 0) (tCons (tC (.ref (He.ga K "NotKept"))) tNil))) tNil))) (tCons (tTup (tCons (tC (.str "TooMany")) (tCons (tCB (rIsX K D a d) (tCons (tVar 0) (tCons (tC (.ref (He.ga K "TooMany"))) tNil))) tNil))) (tCons (tTup (tCons (tC (.str "NoSuch")) (tCons (tCB (rIsX K D a d) (tCons (tVar 0) (tCons (tC (.ref (He.ga K "NoSuch"))) tNil))) tNil))) (tCons (tTup (tCons (tC (.str "Ended")) (tCons (tCB (rIsX K D a d) (tCons (tVar 0) (tCons (tC (.ref (He.ga K "Ended"))) tNil))) tNil))) tNil)))))))))))))))))))))) (gName 1))
  (tRet (tLc (iList K (tVar 1)) (gTup K 2 (gCons (gName 2) (gCons (gName 3) gNil))) (tTr K (tVar 3)) (tVar 2) [2, 3])))
theorem fn__law_marks (G : Glob K mg) {fd : FuncData} (F : FunD K "_law_marks" "_law_marks" (defArgs s__law_marks) (defBody s__law_marks) (defScope s__law_marks) [] [] (He.ga K "_law_marks") fd) {sp : SpE} (len : ∀ a c d vs H Q E, sp a c d vs H Q E → vs.length = 1)
    (own : ∀ a c d vs H Q E, sp a c d vs H Q E → ∃ D, c = .ref D ∧ LE.Own K D) (rd : ∀ a D d vs H Q E, sp a (.ref D) d vs H Q E → t__law_marks K D a d { nx := fun _ H' => Q .non H', rt := Q } (start ["e", "marks", "word", "yes"] vs) H) : HasE P w K mg base "_law_marks" 1 ["e"] sp := by
  have nd := (sc__law_marks).nd
  refine ⟨G.g__law_marks, F.kp, fd, okE F sc__law_marks len (fun cdv A outer s H vs Q E p c d hot hz hf hr h => ?_), F.bindsN fun _ _ _ _ _ _ us hl => match us, hl with | [_], _ => rfl⟩
  obtain ⟨D, rfl, O⟩ := own _ _ _ _ _ _ _ h
  refine ⟨t__law_marks K D p.1 d, ?_, rd _ _ _ vs H Q E h⟩
  have hE := hotE_def (CX := L2N.CX P w) (P := P) (w := w) (K := K) (mg := mg) (base := base) (N := ["e", "marks", "word", "yes"]) (qual := "_law_marks") (scope := defScope s__law_marks) (f := He.ga K "_law_marks") (cd := cdv) (outer := outer) (s := s) (H := H) (E := E) hot hz
  exact (pss_cons (ps_set (i := 1) nd rfl (by first | exact Or.inl rfl | exact Or.inr rfl) (pe_lst (pa_cons (pe_tup (pa_cons pe_str (pa_cons (pe_callB (call_isX O.exc hE.pin) (by rfl) G.b_isinstance (by first | rfl | kernel_rfl) (pa_cons (pv 0) (pa_cons (pe_glob (by rfl) G.g_BadNumber rfl) pa_nil))) pa_nil))) (pa_cons (pe_tup (pa_cons pe_str (pa_cons (pe_callB (call_isX O.exc hE.pin) (by rfl) G.b_isinstance (by first | rfl | kernel_rfl) (pa_cons (pv 0) (pa_cons (pe_glob (by rfl) G.g_BadSum rfl) pa_nil))) pa_nil))) (pa_cons (pe_tup (pa_cons pe_str (pa_cons (pe_callB (call_isX O.exc hE.pin) (by rfl) G.b_isinstance (by first | rfl | kernel_rfl) (pa_cons (pv 0) (pa_cons (pe_glob (by rfl) G.g_BadQuotient rfl) pa_nil))) pa_nil))) (pa_cons (pe_tup (pa_cons pe_str (pa_cons (pe_callB (call_isX O.exc hE.pin) (by rfl) G.b_isinstance (by first | rfl | kernel_rfl) (pa_cons (pv 0) (pa_cons (pe_glob (by rfl) G.g_BadLandscape rfl) pa_nil))) pa_nil))) (pa_cons (pe_tup (pa_cons pe_str (pa_cons (pe_callB (call_isX O.exc hE.pin) (by rfl) G.b_isinstance (by first | rfl | kernel_rfl) (pa_cons (pv 0) (pa_cons (pe_glob (by rfl) G.g_BadWell rfl) pa_nil))) pa_nil))) (pa_cons (pe_tup (pa_cons pe_str (pa_cons (pe_callB (call_isX O.exc hE.pin) (by rfl) G.b_isinstance (by first | rfl | kernel_rfl) (pa_cons (pv 0) (pa_cons (pe_glob (by rfl) G.g_BadWall rfl) pa_nil))) pa_nil))) (pa_cons (pe_tup (pa_cons pe_str (pa_cons (pe_callB (call_isX O.exc hE.pin) (by rfl) G.b_isinstance (by first | rfl | kernel_rfl) (pa_cons (pv 0) (pa_cons (pe_glob (by rfl) G.g_BadShape rfl) pa_nil))) pa_nil))) (pa_cons (pe_tup (pa_cons pe_str (pa_cons (pe_callB (call_isX O.exc hE.pin) (by rfl) G.b_isinstance (by first | rfl | kernel_rfl) (pa_cons (pv 0) (pa_cons (pe_glob (by rfl) G.g_BadRoll rfl) pa_nil))) pa_nil))) (pa_cons (pe_tup (pa_cons pe_str (pa_cons (pe_callB (call_isX O.exc hE.pin) (by rfl) G.b_isinstance (by first | rfl | kernel_rfl) (pa_cons (pv 0) (pa_cons (pe_glob (by rfl) G.g_BadOperator rfl) pa_nil))) pa_nil))) (pa_cons (pe_tup (pa_cons pe_str (pa_cons (pe_callB (call_isX O.exc hE.pin) (by rfl) G.b_isinstance (by first | rfl | kernel_rfl) (pa_cons (pv 0) (pa_cons (pe_glob (by rfl) G.g_BadSymbol rfl) pa_nil))) pa_nil))) (pa_cons (pe_tup (pa_cons pe_str (pa_cons (pe_callB (call_isX O.exc hE.pin) (by rfl) G.b_isinstance (by first | rfl | kernel_rfl) (pa_cons (pv 0) (pa_cons (pe_glob (by rfl) G.g_BadStep rfl) pa_nil))) pa_nil))) (pa_cons (pe_tup (pa_cons pe_str (pa_cons (pe_callB (call_isX O.exc hE.pin) (by rfl) G.b_isinstance (by first | rfl | kernel_rfl) (pa_cons (pv 0) (pa_cons (pe_glob (by rfl) G.g_BadPaper rfl) pa_nil))) pa_nil))) (pa_cons (pe_tup (pa_cons pe_str (pa_cons (pe_callB (call_isX O.exc hE.pin) (by rfl) G.b_isinstance (by first | rfl | kernel_rfl) (pa_cons (pv 0) (pa_cons (pe_glob (by rfl) G.g_BadName rfl) pa_nil))) pa_nil))) (pa_cons (pe_tup (pa_cons pe_str (pa_cons (pe_callB (call_isX O.exc hE.pin) (by rfl) G.b_isinstance (by first | rfl | kernel_rfl) (pa_cons (pv 0) (pa_cons (pe_glob (by rfl) G.g_BadScript rfl) pa_nil))) pa_nil))) (pa_cons (pe_tup (pa_cons pe_str (pa_cons (pe_callB (call_isX O.exc hE.pin) (by rfl) G.b_isinstance (by first | rfl | kernel_rfl) (pa_cons (pv 0) (pa_cons (pe_glob (by rfl) G.g_Barred rfl) pa_nil))) pa_nil))) (pa_cons (pe_tup (pa_cons pe_str (pa_cons (pe_callB (call_isX O.exc hE.pin) (by rfl) G.b_isinstance (by first | rfl | kernel_rfl) (pa_cons (pv 0) (pa_cons (pe_glob (by rfl) G.g_Unlike rfl) pa_nil))) pa_nil))) (pa_cons (pe_tup (pa_cons pe_str (pa_cons (pe_callB (call_isX O.exc hE.pin) (by rfl) G.b_isinstance (by first | rfl | kernel_rfl) (pa_cons (pv 0) (pa_cons (pe_glob (by rfl) G.g_HasResidue rfl) pa_nil))) pa_nil))) (pa_cons (pe_tup (pa_cons pe_str (pa_cons (pe_callB (call_isX O.exc hE.pin) (by rfl) G.b_isinstance (by first | rfl | kernel_rfl) (pa_cons (pv 0) (pa_cons (pe_glob (by rfl) G.g_NotKept rfl) pa_nil))) pa_nil))) (pa_cons (pe_tup (pa_cons pe_str (pa_cons (pe_callB (call_isX O.exc hE.pin) (by rfl) G.b_isinstance (by first | rfl | kernel_rfl) (pa_cons (pv 0) (pa_cons (pe_glob (by rfl) G.g_TooMany rfl) pa_nil))) pa_nil))) (pa_cons (pe_tup (pa_cons pe_str (pa_cons (pe_callB (call_isX O.exc hE.pin) (by rfl) G.b_isinstance (by first | rfl | kernel_rfl) (pa_cons (pv 0) (pa_cons (pe_glob (by rfl) G.g_NoSuch rfl) pa_nil))) pa_nil))) (pa_cons (pe_tup (pa_cons pe_str (pa_cons (pe_callB (call_isX O.exc hE.pin) (by rfl) G.b_isinstance (by first | rfl | kernel_rfl) (pa_cons (pv 0) (pa_cons (pe_glob (by rfl) G.g_Ended rfl) pa_nil))) pa_nil))) pa_nil)))))))))))))))))))))))
      (pss_one (ps_ret (pe_lcB (own := [("word", 2), ("yes", 3)]) (hotB_of hE.hotC) nd (pi_listB (pv 1)) (blkOk_by (own := [("word", 2), ("yes", 3)]) (by first | decide +kernel | rfl)) (fun _ _ _ _ _ hb => (pg_tupB hb (pgs_cons (pg_name (i := 2) nd rfl (by first | exact Or.inl rfl | exact Or.inr rfl) (by first | exact Or.inl rfl | exact Or.inr rfl)) (pgs_cons (pg_name (i := 3) nd rfl (by first | exact Or.inl rfl | exact Or.inr rfl) (by first | exact Or.inl rfl | exact Or.inr rfl)) pgs_nil)))) (fun _ _ _ _ _ => (pts_one (pt_tr (pv 3)))) (fun _ _ _ _ _ => (pv 2))))))
theorem sc__law_fault : FnScope ["e", "words", "word", "bases", "due"] ["e"] (defScope s__law_fault) := ⟨rfl, rfl, rfl, by decide +kernel, rfl, by decide +kernel, by decide +kernel⟩
def t__law_fault (K : PySem.W.Frag) (D a : Addr) (d : Option Addr) (sp__law_marks : SpE) : TS := (tSeq (tAsg (tCallE sp__law_marks a (.ref D) d (tCons (tVar 0) tNil)) (gName 1))
  (tSeq (tAsg (tIf (tTest (tOp (uEq K) (tCB (uLen K) (tCons (tVar 1) tNil)) (tC (.int 1)))) (tOp (uIx K) (tVar 1) (tC (.int 0))) (tC (.str "other"))) (gName 2))
  (tSeq (tAsg (tLst (tCons (tCB (rIsX K D a d) (tCons (tVar 0) (tCons (tC (.ref (He.ga K "Refused"))) tNil))) (tCons (tCB (rIsX K D a d) (tCons (tVar 0) (tCons (tC (.ty "ValueError")) tNil))) (tCons (tCB (rIsX K D a d) (tCons (tVar 0) (tCons (tC (.ty "LookupError")) tNil))) (tCons (tCB (rIsX K D a d) (tCons (tVar 0) (tCons (tC (.ty "RuntimeError")) tNil))) tNil))))) (gName 3))
  (tSeq (tAsg (tIf (tTest (tOp (uEq K) (tVar 2) (tC (.str "NoSuch")))) (tLst (tCons (tC (.bl false)) (tCons (tC (.bl false)) (tCons (tC (.bl true)) (tCons (tC (.bl false)) tNil))))) (tIf (tTest (tOp (uEq K) (tVar 2) (tC (.str "Ended")))) (tLst (tCons (tC (.bl false)) (tCons (tC (.bl false)) (tCons (tC (.bl false)) (tCons (tC (.bl true)) tNil))))) (tLst (tCons (tC (.bl true)) (tCons (tC (.bl true)) (tCons (tC (.bl false)) (tCons (tC (.bl false)) tNil))))))) (gName 4))
  (tSeq (tIfS (tOr (tTest (tOp (uNe K) (tVar 3) (tVar 4))) (tTest (tOp (uEq K) (tVar 2) (tC (.str "other"))))) (tRet (tLst (tCons (tC (.str "fault")) (tCons (tC (.str "of other classes")) tNil)))) tNext)
  (tSeq (tIfS (tTest (tOp (uIn K false) (tVar 2) (tLst (tCons (tC (.str "TooMany")) (tCons (tC (.str "Barred")) tNil))))) (tRet (tIf (tTest (tOp (uEq K) (tVar 2) (tC (.str "TooMany")))) (tLst (tCons (tC (.str "fault")) (tCons (tVar 2) (tCons (tXG K D a d "what" (tVar 0)) (tCons (tXG K D a d "count" (tVar 0)) tNil))))) (tLst (tCons (tC (.str "fault")) (tCons (tVar 2) (tCons (tXG K D a d "kind" (tVar 0)) tNil)))))) tNext)
  (tSeq (tIfS (tTest (tOp (uIn K false) (tVar 2) (tLst (tCons (tC (.str "BadName")) (tCons (tC (.str "NoSuch")) (tCons (tC (.str "BadScript")) tNil)))))) (tRet (tLst (tCons (tC (.str "fault")) (tCons (tVar 2) (tCons (tIf (tTest (tOp (uEq K) (tVar 2) (tC (.str "BadScript")))) (tXG K D a d "line" (tVar 0)) (tXG K D a d "name" (tVar 0))) tNil))))) tNext)
  (tSeq (tIfS (tTest (tOp (uIn K false) (tVar 2) (tLst (tCons (tC (.str "Unlike")) (tCons (tC (.str "Ended")) (tCons (tC (.str "HasResidue")) (tCons (tC (.str "NotKept")) tNil))))))) (tRet (tLst (tCons (tC (.str "fault")) (tCons (tVar 2) (tCons (tIf (tTest (tOp (uIn K false) (tVar 2) (tLst (tCons (tC (.str "Unlike")) (tCons (tC (.str "Ended")) tNil))))) (tXG K D a d "what" (tVar 0)) (tXG K D a d "wall" (tVar 0))) tNil))))) tNext)
  (tRet (tLst (tCons (tC (.str "fault")) (tCons (tVar 2) (tCons (tXG K D a d "at" (tVar 0)) tNil)))))))))))))
theorem fn__law_fault (G : Glob K mg) {sp__law_marks : SpE} (h__law_marks : HasE P w K mg base "_law_marks" 1 ["e"] sp__law_marks) {fd : FuncData} (F : FunD K "_law_fault" "_law_fault" (defArgs s__law_fault) (defBody s__law_fault) (defScope s__law_fault) [] [] (He.ga K "_law_fault") fd) {sp : SpE} (len : ∀ a c d vs H Q E, sp a c d vs H Q E → vs.length = 1)
    (own : ∀ a c d vs H Q E, sp a c d vs H Q E → ∃ D, c = .ref D ∧ LE.Own K D) (rd : ∀ a D d vs H Q E, sp a (.ref D) d vs H Q E → t__law_fault K D a d sp__law_marks { nx := fun _ H' => Q .non H', rt := Q } (start ["e", "words", "word", "bases", "due"] vs) H) : HasE P w K mg base "_law_fault" 2 ["e"] sp := by
  have nd := (sc__law_fault).nd
  refine ⟨G.g__law_fault, F.kp, fd, okE F sc__law_fault len (fun cdv A outer s H vs Q E p c d hot hz hf hr h => ?_), F.bindsN fun _ _ _ _ _ _ us hl => match us, hl with | [_], _ => rfl⟩
  obtain ⟨D, rfl, O⟩ := own _ _ _ _ _ _ _ h
  refine ⟨t__law_fault K D p.1 d sp__law_marks, ?_, rd _ _ _ vs H Q E h⟩
  have hE := hotE_def (CX := L2N.CX P w) (P := P) (w := w) (K := K) (mg := mg) (base := base) (N := ["e", "words", "word", "bases", "due"]) (qual := "_law_fault") (scope := defScope s__law_fault) (f := He.ga K "_law_fault") (cd := cdv) (outer := outer) (s := s) (H := H) (E := E) hot hz
  exact (pss_cons (ps_set (i := 1) nd rfl (by first | exact Or.inl rfl | exact Or.inr rfl) (pe_callUE h__law_marks hr (by decide) hE (by rfl) (pa_cons (pv 0) pa_nil)))
      (pss_cons (ps_set (i := 2) nd rfl (by first | exact Or.inl rfl | exact Or.inr rfl) (pe_ifExp (pt_cmpR (op_uEq (roomH_units hr)) (pe_callB cr_len (by rfl) G.b_len (by first | rfl | kernel_rfl) (pa_cons (pv 1) pa_nil)) pe_int (by rfl)) (pe_ix ix_u (pv 1) pe_int (fun _ _ => rfl)) pe_str))
      (pss_cons (ps_set (i := 3) nd rfl (by first | exact Or.inl rfl | exact Or.inr rfl) (pe_lst (pa_cons (pe_callB (call_isX O.exc hE.pin) (by rfl) G.b_isinstance (by first | rfl | kernel_rfl) (pa_cons (pv 0) (pa_cons (pe_glob (by rfl) G.g_Refused rfl) pa_nil))) (pa_cons (pe_callB (call_isX O.exc hE.pin) (by rfl) G.b_isinstance (by first | rfl | kernel_rfl) (pa_cons (pv 0) (pa_cons (pe_bltn (v := .ty "ValueError") (by rfl) G.b_ValueError (by first | rfl | kernel_rfl) rfl) pa_nil))) (pa_cons (pe_callB (call_isX O.exc hE.pin) (by rfl) G.b_isinstance (by first | rfl | kernel_rfl) (pa_cons (pv 0) (pa_cons (pe_bltn (v := .ty "LookupError") (by rfl) G.b_LookupError (by first | rfl | kernel_rfl) rfl) pa_nil))) (pa_cons (pe_callB (call_isX O.exc hE.pin) (by rfl) G.b_isinstance (by first | rfl | kernel_rfl) (pa_cons (pv 0) (pa_cons (pe_bltn (v := .ty "RuntimeError") (by rfl) G.b_RuntimeError (by first | rfl | kernel_rfl) rfl) pa_nil))) pa_nil))))))
      (pss_cons (ps_set (i := 4) nd rfl (by first | exact Or.inl rfl | exact Or.inr rfl) (pe_ifExp (pt_cmpR (op_uEq (roomH_units hr)) (pv 2) pe_str (by rfl)) (pe_lst (pa_cons pe_bl (pa_cons pe_bl (pa_cons pe_bl (pa_cons pe_bl pa_nil))))) (pe_ifExp (pt_cmpR (op_uEq (roomH_units hr)) (pv 2) pe_str (by rfl)) (pe_lst (pa_cons pe_bl (pa_cons pe_bl (pa_cons pe_bl (pa_cons pe_bl pa_nil))))) (pe_lst (pa_cons pe_bl (pa_cons pe_bl (pa_cons pe_bl (pa_cons pe_bl pa_nil))))))))
      (pss_cons (ps_if ((pw_or (pt_cmpR (op_uNe (roomH_units hr)) (pv 3) (pv 4) (by rfl)) (pw_or1 (pt_cmpR (op_uEq (roomH_units hr)) (pv 2) pe_str (by rfl))))).pt (pss_one (ps_ret (pe_lst (pa_cons pe_str (pa_cons pe_str pa_nil))))) pss_nil)
      (pss_cons (ps_if (pt_cmpR op_uIn (pv 2) (pe_lst (pa_cons pe_str (pa_cons pe_str pa_nil))) (by rfl)) (pss_one (ps_ret (pe_ifExp (pt_cmpR (op_uEq (roomH_units hr)) (pv 2) pe_str (by rfl)) (pe_lst (pa_cons pe_str (pa_cons (pv 2) (pa_cons (pe_xG O.xf hE.pin (pv 0)) (pa_cons (pe_xG O.xf hE.pin (pv 0)) pa_nil))))) (pe_lst (pa_cons pe_str (pa_cons (pv 2) (pa_cons (pe_xG O.xf hE.pin (pv 0)) pa_nil))))))) pss_nil)
      (pss_cons (ps_if (pt_cmpR op_uIn (pv 2) (pe_lst (pa_cons pe_str (pa_cons pe_str (pa_cons pe_str pa_nil)))) (by rfl)) (pss_one (ps_ret (pe_lst (pa_cons pe_str (pa_cons (pv 2) (pa_cons (pe_ifExp (pt_cmpR (op_uEq (roomH_units hr)) (pv 2) pe_str (by rfl)) (pe_xG O.xf hE.pin (pv 0)) (pe_xG O.xf hE.pin (pv 0))) pa_nil)))))) pss_nil)
      (pss_cons (ps_if (pt_cmpR op_uIn (pv 2) (pe_lst (pa_cons pe_str (pa_cons pe_str (pa_cons pe_str (pa_cons pe_str pa_nil))))) (by rfl)) (pss_one (ps_ret (pe_lst (pa_cons pe_str (pa_cons (pv 2) (pa_cons (pe_ifExp (pt_cmpR op_uIn (pv 2) (pe_lst (pa_cons pe_str (pa_cons pe_str pa_nil))) (by rfl)) (pe_xG O.xf hE.pin (pv 0)) (pe_xG O.xf hE.pin (pv 0))) pa_nil)))))) pss_nil)
      (pss_one (ps_ret (pe_lst (pa_cons pe_str (pa_cons (pv 2) (pa_cons (pe_xG O.xf hE.pin (pv 0)) pa_nil))))))))))))))
end
end K20
end
section
set_option Elab.async false
set_option linter.all false
set_option maxRecDepth 100000
set_option maxHeartbeats 4000000
/-! printed by gen/gen.py: each def, its term and its rule -/
namespace K20
open PySem PySem.Spec PyProof.Rows L2 LamX U
section
variable {P : Program} {w : World} {K : PySem.W.Frag} {mg : Str → Option Value} {base : Heap}
theorem sc__law_refuses : FnScope ["call", "parts"] ["call", "parts"] (defScope s__law_refuses) := ⟨rfl, rfl, rfl, by decide +kernel, rfl, by decide +kernel, by decide +kernel⟩
def t__law_refuses (K : PySem.W.Frag) (sp__law_like : Sp) (sp__law_tried : Sp) : TS := (tRet (tCall sp__law_like [] E0 (tCons (tCall sp__law_tried [] E0 (tCons (tVar 0) tNil)) (tCons (tOp (uAdd K) (tLst (tCons (tC (.str "fault")) tNil)) (tVar 1)) tNil))))
theorem fn__law_refuses (G : Glob K mg) {sp__law_like : Sp} (h__law_like : Has P w K mg base "_law_like" 5 ["told", "due"] sp__law_like) {sp__law_tried : Sp} (h__law_tried : Has P w K mg base "_law_tried" 9 ["call"] sp__law_tried) {fd : FuncData} (F : FunD K "_law_refuses" "_law_refuses" (defArgs s__law_refuses) (defBody s__law_refuses) (defScope s__law_refuses) [] [] (He.ga K "_law_refuses") fd) {sp : Sp} (len : ∀ vs H Q E, sp vs H Q E → vs.length = 2)
    (rd : ∀ vs H Q E, sp vs H Q E → t__law_refuses K sp__law_like sp__law_tried { nx := fun _ H' => Q .non H', rt := Q } (start ["call", "parts"] vs) H) : Has P w K mg base "_law_refuses" 10 ["call", "parts"] sp := by
  have nd := (sc__law_refuses).nd
  refine ⟨G.g__law_refuses, F.kp, fd, F.ok sc__law_refuses len (fun cdv A outer s H vs Q E hr h => ⟨t__law_refuses K sp__law_like sp__law_tried, ?_, rd vs H Q E h⟩), F.bindsN fun _ _ _ _ _ _ us hl => match us, hl with | [_, _], _ => rfl⟩
  refine PSs.nox ?_
  exact (pss_one (ps_ret (pe_callU h__law_like hr (by decide) (by rfl) passN (pa_cons (pe_callU h__law_tried hr (by decide) (by rfl) passN (pa_cons (pv 0) pa_nil)) (pa_cons (pe_op op_uAdd (pe_lst (pa_cons pe_str pa_nil)) (pv 1)) pa_nil)))))
end
end K20
end
section
set_option Elab.async false
set_option linter.all false
set_option maxRecDepth 100000
set_option maxHeartbeats 4000000
/-! printed by gen/gen.py: each def, its term and its rule -/
namespace K20
open PySem PySem.Spec PyProof.Rows L2 LamX U
section
variable {P : Program} {w : World} {K : PySem.W.Frag} {mg : Str → Option Value} {base : Heap}
theorem scT_hooks : FnScope ["shape", "rows", "columns", "found", "i", "row", "j", "right", "below"] ["shape"] (defScope s_hooks) := ⟨rfl, rfl, rfl, by decide +kernel, rfl, by decide +kernel, by decide +kernel⟩
def tT_hooks (K : PySem.W.Frag) (sp_read_shape : Sp) (sp_turn_rows : Sp) (E : XK) : TS := (tSeq (tAsg (tCall sp_read_shape [] E (tCons (tVar 0) tNil)) (gName 1))
  (tSeq (tAsg (tCall sp_turn_rows [] E (tCons (tVar 1) tNil)) (gName 2))
  (tSeq (tAsg (tLst tNil) (gName 3))
  (tSeq (tFor (iEnumT K (tCons (tVar 1) tNil)) (gTup K 2 (gCons (gName 4) (gCons (gName 5) gNil))) (tFor (iRng1 (tCons (tVar 5) tNil)) (gName 6) (tSeq (tAsg (tOp qSub (tOp qSub (tVar 5) (tVar 6)) (tC (.int 1))) (gName 7))
  (tSeq (tAsg (tOp qSub (tOp qSub (tOp (uIx K) (tVar 2) (tVar 6)) (tVar 4)) (tC (.int 1))) (gName 8))
  (tDrop (tBM K "list" rAppend (tVar 3) (tCons (tOp (uAdd K) (tOp (uAdd K) (tVar 7) (tVar 8)) (tC (.int 1))) tNil)))))))
  (tRet (tCB (rSortedI K) (tCons (tVar 3) tNil)))))))
theorem fnT_hooks (G : Glob K mg) {sp_read_shape : Sp} (h_read_shape : Has P w K mg base "read_shape" 6 ["thing"] sp_read_shape) {sp_turn_rows : Sp} (h_turn_rows : Has P w K mg base "turn_rows" 1 ["rows"] sp_turn_rows) {fd : FuncData} (F : FunD K "hooks" "hooks" (defArgs s_hooks) (defBody s_hooks) (defScope s_hooks) [] [] (He.ga K "hooks") fd) {sp : Sp} (len : ∀ vs H Q E, sp vs H Q E → vs.length = 1)
    (rd : ∀ vs H Q E, sp vs H Q E → tT_hooks K sp_read_shape sp_turn_rows E { nx := fun _ H' => Q .non H', rt := Q } (start ["shape", "rows", "columns", "found", "i", "row", "j", "right", "below"] vs) H) : Has P w K mg base "hooks" 7 ["shape"] sp := by
  have nd := (scT_hooks).nd
  refine ⟨G.g_hooks, F.kp, fd, F.ok scT_hooks len (fun cdv A outer s H vs Q E hr h => ⟨tT_hooks K sp_read_shape sp_turn_rows E, ?_, rd vs H Q E h⟩), F.bindsN fun _ _ _ _ _ _ us hl => match us, hl with | [_], _ => rfl⟩
  have tk := L2N.takes_of (X := cxOf (L2N.CX P w) P w K mg base ["shape", "rows", "columns", "found", "i", "row", "j", "right", "below"] "hooks" (defScope s_hooks) (He.ga K "hooks") cdv A outer s H E) (E := E) rfl rfl rfl rfl
  exact (pss_cons (ps_set (i := 1) nd rfl (by first | exact Or.inl rfl | exact Or.inr rfl) (pe_callU h_read_shape hr (by decide) (by rfl) (L2N.passes_call tk fun _ _ _ _ h => h) (pa_cons (pv 0) pa_nil)))
      (pss_cons (ps_set (i := 2) nd rfl (by first | exact Or.inl rfl | exact Or.inr rfl) (pe_callU h_turn_rows hr (by decide) (by rfl) (L2N.passes_call tk fun _ _ _ _ h => h) (pa_cons (pv 1) pa_nil)))
      (pss_cons (ps_set (i := 3) nd rfl (by first | exact Or.inl rfl | exact Or.inr rfl) (pe_lst pa_nil))
      (pss_cons (ps_for (passes_of rfl) rfl (pi_enumT (by rfl) G.b_enumerate (pa_cons (pv 1) pa_nil)) (pg_tup rfl (pgs_cons (pg_name (i := 4) nd rfl (by first | exact Or.inl rfl | exact Or.inr rfl) (by first | exact Or.inl rfl | exact Or.inr rfl)) (pgs_cons (pg_name (i := 5) nd rfl (by first | exact Or.inl rfl | exact Or.inr rfl) (by first | exact Or.inl rfl | exact Or.inr rfl)) pgs_nil))) (pss_one (ps_for (passes_of rfl) rfl (pi_range1 (by rfl) G.b_range (pa_cons (pv 5) pa_nil)) (pg_name (i := 6) nd rfl (by first | exact Or.inl rfl | exact Or.inr rfl) (by first | exact Or.inl rfl | exact Or.inr rfl)) (pss_cons (ps_set (i := 7) nd rfl (by first | exact Or.inl rfl | exact Or.inr rfl) (pe_op op_sub (pe_op op_sub (pv 5) (pv 6)) pe_int))
      (pss_cons (ps_set (i := 8) nd rfl (by first | exact Or.inl rfl | exact Or.inr rfl) (pe_op op_sub (pe_op op_sub (pe_ix ix_u (pv 2) (pv 6) (fun _ _ => rfl)) (pv 4)) pe_int))
      (pss_one (ps_expr (pe_bm PySem.F.plainAttrs_list PySem.F.slot_list_append PySem.F.type_list_append mt_append (pv 3) (pa_cons (pe_op op_uAdd (pe_op op_uAdd (pv 7) (pv 8)) pe_int) pa_nil)))))))))
      (pss_one (ps_ret (pe_callB cr_sortedI (by rfl) G.b_sorted (by first | rfl | kernel_rfl) (pa_cons (pv 3) pa_nil))))))))
end
end K20
end
section
set_option Elab.async false
set_option linter.all false
set_option maxRecDepth 100000
set_option maxHeartbeats 4000000
/-! printed by gen/gen.py: each def, its term and its rule -/
namespace K20
open PySem PySem.Spec PyProof.Rows L2 LamX U
section
variable {P : Program} {w : World} {K : PySem.W.Frag} {mg : Str → Option Value} {base : Heap}
theorem sc_law : FnScope ["script", "jar", "turn", "lam"] ["script"] (defScope s_law) := ⟨rfl, rfl, rfl, by decide +kernel, rfl, by decide +kernel, by decide +kernel⟩
def t_law (K : PySem.W.Frag) (sp__law_bag : Sp) (sp__law_stair : Sp) (sp__law_draw : Sp) (sp__law_parts_told : Sp) (sp__law_sites_told : Sp) (sp__law_faults_told : Sp) (sp__law_like : Sp) (sp_read_shape : Sp) (sp_gaps : Sp) : TS := (tSeq (tAsg (tCall sp__law_bag [] E0 (tCons (tVar 0) tNil)) (gName 1))
  (tSeq (tFor (iRng1 (tCons (tC (.int 2)) tNil)) (gName 2) (tSeq (tAsg (tCall sp__law_stair [] E0 (tCons (tVar 1) (tCons (tIf (tTest (tOp (uEq K) (tCall sp__law_draw [] E0 (tCons (tVar 1) (tCons (tC (.int 8)) tNil))) (tC (.int 0)))) (tC (.int 30)) (tC (.int 12))) tNil))) (gName 3))
  (tIfS (tOr (tNot (L2.tB (tCall sp__law_parts_told [] E0 (tCons (tVar 1) (tCons (tVar 3) tNil))))) (tOr (tNot (L2.tB (tCall sp__law_sites_told [] E0 (tCons (tVar 1) (tCons (tVar 3) tNil))))) (tNot (L2.tB (tCall sp__law_faults_told [] E0 (tCons (tVar 1) (tCons (tVar 3) tNil))))))) (tRet (tC (.bl false))) tNext)))
  (tRet (tAndV (tCall sp__law_like [] E0 (tCons (tCall sp_read_shape [] E0 (tCons (tC (.str "bare")) tNil)) (tCons (tTup tNil) tNil))) (tCall sp__law_like [] E0 (tCons (tCall sp_gaps [] E0 (tCons (tLst tNil) (tCons (tOp qSub (tC (.int 0)) (tC (.int 3))) tNil))) (tCons (tLst (tCons (tOp qSub (tC (.int 0)) (tC (.int 3))) (tCons (tOp qSub (tC (.int 0)) (tC (.int 2))) (tCons (tOp qSub (tC (.int 0)) (tC (.int 1))) tNil)))) tNil)))))))
theorem fn_law (G : Glob K mg) {sp__law_bag : Sp} (h__law_bag : Has P w K mg base "_law_bag" 1 ["script"] sp__law_bag) {sp__law_stair : Sp} (h__law_stair : Has P w K mg base "_law_stair" 2 ["jar", "most"] sp__law_stair) {sp__law_draw : Sp} (h__law_draw : Has P w K mg base "_law_draw" 1 ["jar", "top"] sp__law_draw) {sp__law_parts_told : Sp} (h__law_parts_told : Has P w K mg base "_law_parts_told" 8 ["jar", "lam"] sp__law_parts_told) {sp__law_sites_told : Sp} (h__law_sites_told : Has P w K mg base "_law_sites_told" 7 ["jar", "lam"] sp__law_sites_told) {sp__law_faults_told : Sp} (h__law_faults_told : Has P w K mg base "_law_faults_told" 12 ["jar", "lam"] sp__law_faults_told) {sp__law_like : Sp} (h__law_like : Has P w K mg base "_law_like" 5 ["told", "due"] sp__law_like) {sp_read_shape : Sp} (h_read_shape : Has P w K mg base "read_shape" 6 ["thing"] sp_read_shape) {sp_gaps : Sp} (h_gaps : Has P w K mg base "gaps" 6 ["shape", "low"] sp_gaps) {fd : FuncData} (F : FunD K "law" "law" (defArgs s_law) (defBody s_law) (defScope s_law) [] [] (He.ga K "law") fd) {sp : Sp} (len : ∀ vs H Q E, sp vs H Q E → vs.length = 1)
    (rd : ∀ vs H Q E, sp vs H Q E → t_law K sp__law_bag sp__law_stair sp__law_draw sp__law_parts_told sp__law_sites_told sp__law_faults_told sp__law_like sp_read_shape sp_gaps { nx := fun _ H' => Q .non H', rt := Q } (start ["script", "jar", "turn", "lam"] vs) H) : Has P w K mg base "law" 13 ["script"] sp := by
  have nd := (sc_law).nd
  refine ⟨G.g_law, F.kp, fd, F.ok sc_law len (fun cdv A outer s H vs Q E hr h => ⟨t_law K sp__law_bag sp__law_stair sp__law_draw sp__law_parts_told sp__law_sites_told sp__law_faults_told sp__law_like sp_read_shape sp_gaps, ?_, rd vs H Q E h⟩), F.bindsN fun _ _ _ _ _ _ us hl => match us, hl with | [_], _ => rfl⟩
  refine PSs.nox ?_
  exact (pss_cons (ps_set (i := 1) nd rfl (by first | exact Or.inl rfl | exact Or.inr rfl) (pe_callU h__law_bag hr (by decide) (by rfl) passN (pa_cons (pv 0) pa_nil)))
      (pss_cons (ps_for PassesOwn.never rfl (pi_range1 (by rfl) G.b_range (pa_cons pe_int pa_nil)) (pg_name (i := 2) nd rfl (by first | exact Or.inl rfl | exact Or.inr rfl) (by first | exact Or.inl rfl | exact Or.inr rfl)) (pss_cons (ps_set (i := 3) nd rfl (by first | exact Or.inl rfl | exact Or.inr rfl) (pe_callU h__law_stair hr (by decide) (by rfl) passN (pa_cons (pv 1) (pa_cons (pe_ifExp (pt_cmpR (op_uEq hr.units) (pe_callU h__law_draw hr (by decide) (by rfl) passN (pa_cons (pv 1) (pa_cons pe_int pa_nil))) pe_int (by rfl)) pe_int pe_int) pa_nil))))
      (pss_one (ps_if ((pw_or (pt_not (pt_val (pe_callU h__law_parts_told hr (by decide) (by rfl) passN (pa_cons (pv 1) (pa_cons (pv 3) pa_nil))))) (pw_or (pt_not (pt_val (pe_callU h__law_sites_told hr (by decide) (by rfl) passN (pa_cons (pv 1) (pa_cons (pv 3) pa_nil))))) (pw_or1 (pt_not (pt_val (pe_callU h__law_faults_told hr (by decide) (by rfl) passN (pa_cons (pv 1) (pa_cons (pv 3) pa_nil))))))))).pt (pss_one (ps_ret pe_bl)) pss_nil))))
      (pss_one (ps_ret (pe_and (pe_callU h__law_like hr (by decide) (by rfl) passN (pa_cons (pe_callU h_read_shape hr (by decide) (by rfl) passN (pa_cons pe_str pa_nil)) (pa_cons (pe_tup pa_nil) pa_nil))) (pe_one (pe_callU h__law_like hr (by decide) (by rfl) passN (pa_cons (pe_callU h_gaps hr (by decide) (by rfl) passN (pa_cons (pe_lst pa_nil) (pa_cons (pe_op op_sub pe_int pe_int) pa_nil))) (pa_cons (pe_lst (pa_cons (pe_op op_sub pe_int pe_int) (pa_cons (pe_op op_sub pe_int pe_int) (pa_cons (pe_op op_sub pe_int pe_int) pa_nil)))) pa_nil)))))))))
end
end K20
end
section
set_option Elab.async false
set_option linter.all false
set_option maxRecDepth 100000
set_option maxHeartbeats 4000000
namespace K20
open PySem PySem.Spec PyProof.Rows L2 LamX U Evl
/-! ### steps, by program -/
local macro_rules | `(tactic| walk_at "kp") => `(tactic| first
  | assumption
  | exact sqA_of (by assumption)
  | exact sqB_of (by assumption)
  | exact sqL_of (by assumption)
  | exact sqT_of (by assumption)
  | exact Or.inl (by assumption)
  | exact Or.inr (by assumption)
  | exact Gr.refl _ _
  | exact GrA.gr (by assumption)
  | (apply Gr.trans ?_ (by first | assumption | exact GrA.gr (by assumption)); walk_at "kp")
  | (apply Gr.sq; (first | assumption | exact GrA.gr (T := []) (by assumption)); walk_at "kp")
  | (apply Gr.sqL; (first | assumption | exact GrA.gr (T := []) (by assumption)); walk_at "kp")
  | (apply Gr.sqT; (first | assumption | exact GrA.gr (T := []) (by assumption)); walk_at "kp")
  | (apply Gr.lst; (first | assumption | exact GrA.gr (T := []) (by assumption)); walk_at "kp")
  | (apply Gr.tup; (first | assumption | exact GrA.gr (T := []) (by assumption)); walk_at "kp"))
local macro_rules | `(tactic| walk_at "s") => `(tactic| first
  | with_reducible first
    | refine w_seq ?_ | refine w_asg ?_ | refine w_gname ?_ | refine w_if ?_ | refine w_ret ?_ | refine w_next ?_ | refine w_drop ?_ | refine w_retN ?_ | refine w_brk ?_ | refine w_cont ?_ | refine w_gsub ?_
    | refine w_op ?_ | refine w_c ?_ | refine w_nil ?_ | refine w_cons ?_ | refine w_cb ?_ | refine w_un ?_
    | refine w_I0 ?_ | refine w_U ?_ | refine w_add ?_ | refine w_test ?_ | refine w_tB ?_ | refine w_tr ?_ | refine w_exn ?_ | refine w_trn ?_ | refine w_and ?_ | refine w_or ?_ | refine w_not ?_ | refine w_andV ?_ | refine w_orV ?_ | refine w_notV ?_ | refine w_ifE ?_
    | refine w_eqI ?_ | refine w_neI ?_ | refine w_eqS ?_ | refine w_neS ?_ | refine w_eqB ?_ | refine w_neB ?_ | refine w_isNo ?_ | refine w_notN ?_
    | refine w_call0 ?_ | refine w_tupK ?_ | refine w_lstK ?_ | refine w_bm ?_ | refine w_nop ?_ | refine w_part ?_ | refine w_exi ?_ | refine w_sl ?_
    | refine w_lcS ?_ | refine w_lcR1 ?_ | refine w_lcR2 ?_ | refine w_lcE ?_ | refine w_frS ?_ | refine w_frR1 ?_ | refine w_frR2 ?_ | refine w_frE ?_ | refine w_frT ?_
    | refine w_tYes ?_ | refine w_iteD ?_ | refine w_iteND ?_ | refine w_raise ?_ | refine raK1 ?_ | refine raK2 ?_ | refine w_iteNT ?_ | refine w_iteNF ?_ | refine w_ckw ?_ | refine w_callN ?_ | refine w_m1 ?_ | refine w_yes1 ?_ | refine w_iteT ?_ | refine w_iteF ?_ | refine w_abs ?_ | refine w_max2 ?_ | refine w_max3 ?_ | refine w_min2 ?_ | refine w_intI ?_
  | (refine w_var (by with_unfolding_all rfl) ?_)
  | (refine w_lenI (by walk_at "kp") ?_)
  | (refine w_len (by walk_at "kp") ?_)
  | (refine w_sum (by walk_at "kp") ?_)
  | (with_reducible refine lstK ?_ ?_; exact Nat.le_of_ble_eq_true rfl)
  | (with_reducible refine tupK ?_ ?_; exact Nat.le_of_ble_eq_true rfl)
  | (refine w_list (by walk_at "kp") ?_)
  | (refine w_tuple (by walk_at "kp") ?_)
  | (refine w_slI (by walk_at "kp") ?_)
  | (refine w_inI (by walk_at "kp") ?_)
  | (refine w_notInI (by walk_at "kp") ?_))
local macro_rules | `(tactic| walk_at "go") => `(tactic| repeat' (walk_at "s"))
variable {K : PySem.W.Frag} {T : List (Addr × Str)}
abbrev E_ (Q : VK) : Ends := { nx := fun _ H' => Q .non H', rt := Q }
def Bad (K : PySem.W.Frag) (T : List (Addr × Str)) (H : Hp) (E : XK) (w : Int) : Prop := ∀ d H', Gr T H H' → H' d = some (.xd [("at", .int w)]) → E (.ref (He.ga K "BadShape")) (some d) H'
def Many (K : PySem.W.Frag) (T : List (Addr × Str)) (H : Hp) (E : XK) (what : Str) (n : Int) : Prop := ∀ d H', Gr T H H' → H' d = some (.xd [("count", .int n), ("what", .str what)]) → E (.ref (He.ga K "TooMany")) (some d) H'
def firstGaps (rows : List Int) (many : Int) : List Int := (rows ++ List.replicate (many - rows.length).toNat 0).zipIdx.map fun p : Int × Nat => p.1 - p.2 - 1
def spFirstGaps (K : PySem.W.Frag) (T : List (Addr × Str)) : Sp := fun vs H Q _ => ∃ a rows many, vs = [.ref a, .int many] ∧ Sq K H a (rows.map .int) ∧ rows.length ≤ 1000 ∧ many ≤ 5000 ∧ -5000 ≤ many ∧ ∀ l H', Gr T H H' → H l = none → H' l = some (.lst ((firstGaps rows many).map .int)) → Q (.ref l) H'
theorem rd_first_gaps : ∀ vs H Q (E : XK), spFirstGaps K T vs H Q E → t_first_gaps K (E_ Q) (start ["rows", "many", "lengths", "at", "length"] vs) H := by
  intro vs H Q E h
  obtain ⟨a, rows, many, rfl, hs, hl, h1, h2, q⟩ := h
  unfold t_first_gaps
  walk_at "go"
  intro l H1 nl g1 e1
  walk_at "go"
  intro z H2 nz g2 e2
  walk_at "go"
  refine w_rep e2 (by omega) (by omega) fun z2 H3 nz2 g3 e3 => ?_
  have k1 : H3 l = some (.lst (rows.map V.int)) := by walk_at "kp"
  refine w_cat k1 e3 (by rw [List.length_map, List.length_replicate]; omega) fun l2 H4 nl2 g4 e4 => ?_
  walk_at "go"
  have e4' : H4 l2 = some (.lst ((rows ++ List.replicate (many - rows.length).toNat 0).map V.int)) := by rw [e4, List.map_append, List.map_replicate]
  refine lc_E (T := T) (sqL_of e4') (fun _ _ => true) (fun i n => .int (n - i - 1)) (by rw [List.length_append, List.length_replicate]; omega) (fun _ _ => rfl) (fun i n hi H5 g5 Yes No hy hn => ?_) (fun D H5 g5 nD e5 => ?_)
  · walk_at "go"
    exact hy rfl _ (by walk_at "kp")
  · refine q D H5 (by walk_at "kp") ?_ (by rw [e5]; unfold firstGaps; rw [List.filter_eq_self.mpr (fun _ _ => rfl), List.map_map] <;> rfl)
    exact g1.gr.free (T := T) _ (g2.gr.free (T := T) _ (g3.gr.free (T := T) _ (g4.gr.free (T := T) _ nD)))
end K20
end
section
set_option Elab.async false
set_option linter.all false
set_option maxRecDepth 100000
set_option maxHeartbeats 4000000
namespace K20
open PySem PySem.Spec PyProof.Rows L2 LamX U Evl
/-! ### steps, by program -/
local macro_rules | `(tactic| walk_at "kp") => `(tactic| first
  | assumption
  | exact sqA_of (by assumption)
  | exact sqB_of (by assumption)
  | exact sqL_of (by assumption)
  | exact sqT_of (by assumption)
  | exact Or.inl (by assumption)
  | exact Or.inr (by assumption)
  | exact Gr.refl _ _
  | exact GrA.gr (by assumption)
  | (apply Gr.trans ?_ (by first | assumption | exact GrA.gr (by assumption)); walk_at "kp")
  | (apply Gr.sq; (first | assumption | exact GrA.gr (T := []) (by assumption)); walk_at "kp")
  | (apply Gr.sqL; (first | assumption | exact GrA.gr (T := []) (by assumption)); walk_at "kp")
  | (apply Gr.sqT; (first | assumption | exact GrA.gr (T := []) (by assumption)); walk_at "kp")
  | (apply Gr.lst; (first | assumption | exact GrA.gr (T := []) (by assumption)); walk_at "kp")
  | (apply Gr.tup; (first | assumption | exact GrA.gr (T := []) (by assumption)); walk_at "kp"))
local macro_rules | `(tactic| walk_at "s") => `(tactic| first
  | with_reducible first
    | refine w_seq ?_ | refine w_asg ?_ | refine w_gname ?_ | refine w_if ?_ | refine w_ret ?_ | refine w_next ?_ | refine w_drop ?_ | refine w_retN ?_ | refine w_brk ?_ | refine w_cont ?_ | refine w_gsub ?_
    | refine w_op ?_ | refine w_c ?_ | refine w_nil ?_ | refine w_cons ?_ | refine w_cb ?_ | refine w_un ?_
    | refine w_I0 ?_ | refine w_U ?_ | refine w_add ?_ | refine w_test ?_ | refine w_tB ?_ | refine w_tr ?_ | refine w_exn ?_ | refine w_trn ?_ | refine w_and ?_ | refine w_or ?_ | refine w_not ?_ | refine w_andV ?_ | refine w_orV ?_ | refine w_notV ?_ | refine w_ifE ?_
    | refine w_eqI ?_ | refine w_neI ?_ | refine w_eqS ?_ | refine w_neS ?_ | refine w_eqB ?_ | refine w_neB ?_ | refine w_isNo ?_ | refine w_notN ?_
    | refine w_call0 ?_ | refine w_tupK ?_ | refine w_lstK ?_ | refine w_bm ?_ | refine w_nop ?_ | refine w_part ?_ | refine w_exi ?_ | refine w_sl ?_
    | refine w_lcS ?_ | refine w_lcR1 ?_ | refine w_lcR2 ?_ | refine w_lcE ?_ | refine w_frS ?_ | refine w_frR1 ?_ | refine w_frR2 ?_ | refine w_frE ?_ | refine w_frT ?_
    | refine w_tYes ?_ | refine w_iteD ?_ | refine w_iteND ?_ | refine w_raise ?_ | refine raK1 ?_ | refine raK2 ?_ | refine w_iteNT ?_ | refine w_iteNF ?_ | refine w_ckw ?_ | refine w_callN ?_ | refine w_m1 ?_ | refine w_yes1 ?_ | refine w_iteT ?_ | refine w_iteF ?_ | refine w_abs ?_ | refine w_max2 ?_ | refine w_max3 ?_ | refine w_min2 ?_ | refine w_intI ?_
  | (refine w_var (by with_unfolding_all rfl) ?_)
  | (refine w_lenI (by walk_at "kp") ?_)
  | (refine w_len (by walk_at "kp") ?_)
  | (refine w_sum (by walk_at "kp") ?_)
  | (with_reducible refine lstK ?_ ?_; exact Nat.le_of_ble_eq_true rfl)
  | (with_reducible refine tupK ?_ ?_; exact Nat.le_of_ble_eq_true rfl)
  | (refine w_list (by walk_at "kp") ?_)
  | (refine w_tuple (by walk_at "kp") ?_)
  | (refine w_slI (by walk_at "kp") ?_)
  | (refine w_inI (by walk_at "kp") ?_)
  | (refine w_notInI (by walk_at "kp") ?_))
local macro_rules | `(tactic| walk_at "go") => `(tactic| repeat' (walk_at "s"))
variable {K : PySem.W.Frag} {T : List (Addr × Str)}
def rowsOfGaps (row : List Int) : List Int := (row.zipIdx.map fun p : Int × Nat => p.1 + p.2 + 1).filter fun n => decide (0 < n)
def spRowsOfGaps (K : PySem.W.Frag) (T : List (Addr × Str)) : Sp := fun vs H Q _ => ∃ a row, vs = [.ref a] ∧ SqL K H a (row.map .int) ∧ row.length ≤ 10000 ∧ ∀ l H', Gr T H H' → SqT K H' l ((rowsOfGaps row).map .int) → Q (.ref l) H'
theorem rd_rows_of_gaps : ∀ vs H Q (E : XK), spRowsOfGaps K T vs H Q E → t_rows_of_gaps K (E_ Q) (start ["row", "lengths", "at", "gap", "length"] vs) H := by
  intro vs H Q E h
  obtain ⟨a, row, rfl, hs, hl, q⟩ := h
  unfold t_rows_of_gaps
  walk_at "go"
  refine lc_E (T := T) hs (fun _ _ => true) (fun i n => .int (n + i + 1)) (by omega) (fun _ _ => rfl) (fun i n hi H5 g5 Yes No hy hn => ?_) (fun D H1 g1 nD e1 => ?_)
  · walk_at "go"
    exact hy rfl _ (by walk_at "kp")
  · have e2 : H1 D = some (.lst ((row.zipIdx.map fun p : Int × Nat => p.1 + p.2 + 1).map V.int)) := by rw [e1, List.filter_eq_self.mpr (fun _ _ => rfl), List.map_map] <;> rfl
    walk_at "go"
    refine lc_I (T := T) (sqA_of e2) (fun n => decide (0 < n)) V.int (by rw [List.length_map, List.length_zipIdx]; omega) (fun _ => rfl) (fun n hn H5 g5 Yes No hy hno => ?_) (fun D2 H2 g2 nD2 e3 => ?_)
    · walk_at "go"
      refine w_bool (fun e => ?_) (fun e => ?_)
      · walk_at "go"
        exact hy e _ (by walk_at "kp")
      · exact hno e _ (by walk_at "kp")
    · walk_at "go"
      intro l H3 g3 h3
      walk_at "go"
      exact q l H3 (by walk_at "kp") h3
def siteFalls (rows : List Int) (site : Int) : Bool := if site < -(rows.length : Int) then false else !decide (site ∈ firstGaps rows rows.length)
def spSiteFalls (K : PySem.W.Frag) (T : List (Addr × Str)) : Sp := fun vs H Q _ => ∃ a rows site, vs = [.ref a, .int site] ∧ Sq K H a (rows.map .int) ∧ rows.length ≤ 1000 ∧ ∀ H', Gr T H H' → Q (.bl (siteFalls rows site)) H'
theorem rd_site_falls : ∀ vs H Q (E : XK), spSiteFalls K T vs H Q E → t_site_falls K (spFirstGaps K T) (E_ Q) (start ["rows", "site"] vs) H := by
  intro vs H Q E h
  obtain ⟨a, rows, site, rfl, hs, hl, q⟩ := h
  unfold t_site_falls
  walk_at "go"
  refine w_dec (fun e => ?_) (fun e => ?_)
  · walk_at "go"
    have := q H (Gr.refl _ _)
    unfold siteFalls at this
    rw [if_pos e] at this
    exact this
  · walk_at "go"
    refine ⟨a, rows, rows.length, rfl, hs, hl, by omega, by omega, fun l H1 g1 nl e1 => ?_⟩
    walk_at "go"
    have := q H1 g1
    unfold siteFalls at this
    rw [if_neg e] at this
    exact this
def sortDown (l : List Int) : List Int := l.mergeSort fun a b => decide (b ≤ a)
theorem sortDown_perm (l : List Int) : (sortDown l).Perm l := List.mergeSort_perm l _
theorem sortDown_pw (l : List Int) : (sortDown l).Pairwise (· ≥ ·) := by
  have h := List.pairwise_mergeSort (le := fun a b : Int => decide (b ≤ a)) (fun a b c h1 h2 => by simp at *; omega) (fun a b => by simp; omega) l
  exact h.imp fun h => by simpa using h
theorem sortDown_of : ∀ {l m : List Int}, m.Perm l → m.Pairwise (· ≥ ·) → m = sortDown l := fun {l m} h1 h2 => by
  have h3 := h1.trans (sortDown_perm l).symm
  exact h3.eq_of_pairwise (le := fun a b : Int => a ≥ b) (fun a b _ _ h4 h5 => by omega) h2 (sortDown_pw l)
theorem sortDown_len (l : List Int) : (sortDown l).length = l.length := (sortDown_perm l).length_eq
theorem firstGaps_len (rows : List Int) (many : Int) : (firstGaps rows many).length = rows.length + (many - rows.length).toNat := by
  unfold firstGaps
  rw [List.length_map, List.length_zipIdx, List.length_append, List.length_replicate]
end K20
end
section
set_option Elab.async false
set_option linter.all false
set_option maxRecDepth 100000
set_option maxHeartbeats 4000000
namespace K20
open PySem PySem.Spec PyProof.Rows L2 LamX U Evl
/-! ### steps, by program -/
local macro_rules | `(tactic| walk_at "kp") => `(tactic| first
  | assumption
  | exact sqA_of (by assumption)
  | exact sqB_of (by assumption)
  | exact sqL_of (by assumption)
  | exact sqT_of (by assumption)
  | exact Or.inl (by assumption)
  | exact Or.inr (by assumption)
  | exact Gr.refl _ _
  | exact GrA.gr (by assumption)
  | (apply Gr.trans ?_ (by first | assumption | exact GrA.gr (by assumption)); walk_at "kp")
  | (apply Gr.sq; (first | assumption | exact GrA.gr (T := []) (by assumption)); walk_at "kp")
  | (apply Gr.sqL; (first | assumption | exact GrA.gr (T := []) (by assumption)); walk_at "kp")
  | (apply Gr.sqT; (first | assumption | exact GrA.gr (T := []) (by assumption)); walk_at "kp")
  | (apply Gr.lst; (first | assumption | exact GrA.gr (T := []) (by assumption)); walk_at "kp")
  | (apply Gr.tup; (first | assumption | exact GrA.gr (T := []) (by assumption)); walk_at "kp"))
local macro_rules | `(tactic| walk_at "s") => `(tactic| first
  | with_reducible first
    | refine w_seq ?_ | refine w_asg ?_ | refine w_gname ?_ | refine w_if ?_ | refine w_ret ?_ | refine w_next ?_ | refine w_drop ?_ | refine w_retN ?_ | refine w_brk ?_ | refine w_cont ?_ | refine w_gsub ?_
    | refine w_op ?_ | refine w_c ?_ | refine w_nil ?_ | refine w_cons ?_ | refine w_cb ?_ | refine w_un ?_
    | refine w_I0 ?_ | refine w_U ?_ | refine w_add ?_ | refine w_test ?_ | refine w_tB ?_ | refine w_tr ?_ | refine w_exn ?_ | refine w_trn ?_ | refine w_and ?_ | refine w_or ?_ | refine w_not ?_ | refine w_andV ?_ | refine w_orV ?_ | refine w_notV ?_ | refine w_ifE ?_
    | refine w_eqI ?_ | refine w_neI ?_ | refine w_eqS ?_ | refine w_neS ?_ | refine w_eqB ?_ | refine w_neB ?_ | refine w_isNo ?_ | refine w_notN ?_
    | refine w_call0 ?_ | refine w_tupK ?_ | refine w_lstK ?_ | refine w_bm ?_ | refine w_nop ?_ | refine w_part ?_ | refine w_exi ?_ | refine w_sl ?_
    | refine w_lcS ?_ | refine w_lcR1 ?_ | refine w_lcR2 ?_ | refine w_lcE ?_ | refine w_frS ?_ | refine w_frR1 ?_ | refine w_frR2 ?_ | refine w_frE ?_ | refine w_frT ?_
    | refine w_tYes ?_ | refine w_iteD ?_ | refine w_iteND ?_ | refine w_raise ?_ | refine raK1 ?_ | refine raK2 ?_ | refine w_iteNT ?_ | refine w_iteNF ?_ | refine w_ckw ?_ | refine w_callN ?_ | refine w_m1 ?_ | refine w_yes1 ?_ | refine w_iteT ?_ | refine w_iteF ?_ | refine w_abs ?_ | refine w_max2 ?_ | refine w_max3 ?_ | refine w_min2 ?_ | refine w_intI ?_
  | (refine w_var (by with_unfolding_all rfl) ?_)
  | (refine w_lenI (by walk_at "kp") ?_)
  | (refine w_len (by walk_at "kp") ?_)
  | (refine w_sum (by walk_at "kp") ?_)
  | (with_reducible refine lstK ?_ ?_; exact Nat.le_of_ble_eq_true rfl)
  | (with_reducible refine tupK ?_ ?_; exact Nat.le_of_ble_eq_true rfl)
  | (refine w_list (by walk_at "kp") ?_)
  | (refine w_tuple (by walk_at "kp") ?_)
  | (refine w_slI (by walk_at "kp") ?_)
  | (refine w_inI (by walk_at "kp") ?_)
  | (refine w_notInI (by walk_at "kp") ?_))
local macro_rules | `(tactic| walk_at "go") => `(tactic| repeat' (walk_at "s"))
variable {K : PySem.W.Frag} {T : List (Addr × Str)}
def spIsWhole (K : PySem.W.Frag) : Sp := fun vs H Q _ => ∃ x, vs = [x] ∧ Kd K H x ∧ Q (.bl (isInt x)) H
theorem rd_is_whole : ∀ vs H Q (E : XK), spIsWhole K vs H Q E → t_is_whole K (E_ Q) (start ["thing"] vs) H := by
  intro vs H Q E h
  obtain ⟨x, rfl, hk, q⟩ := h
  unfold t_is_whole
  walk_at "go"
  refine isi_int hk ?_
  walk_at "go"
  refine w_bool (fun e => ?_) (fun e => ?_)
  · walk_at "go"
    refine isi_bool hk ?_
    walk_at "go"
    have e2 : (!isBl x) = isInt x := by cases hk <;> first | rfl | exact Bool.noConfusion e
    rw [e2]
    exact q
  · walk_at "go"
    have e2 : isInt x = false := by
      have := e
      rw [Bool.or_eq_false_iff] at this
      exact this.1
    rw [e2] at q
    exact q
theorem rd_law_whole : ∀ vs H Q (E : XK), spIsWhole K vs H Q E → t__law_whole K (E_ Q) (start ["told"] vs) H := rd_is_whole
/-- the first row that is wrong -/
def wrongAt : Option Int → List V → Nat → Option Nat
  | _, [], _ => none
  | ahead, .int n :: r, i => if n < 1 then some i else (match ahead with | none => wrongAt (some n) r (i + 1) | some m => if m < n then some i else wrongAt (some n) r (i + 1))
  | _, _ :: _, i => some i
def optV : Option Int → V
  | none => .non
  | some n => .int n
def optN : Option Nat → V
  | none => .non
  | some n => .int (n : Int)
def spWrongRow (K : PySem.W.Frag) (T : List (Addr × Str)) : Sp := fun vs H Q _ => ∃ a xs, vs = [.ref a] ∧ SqL K H a xs ∧ (∀ x ∈ xs, Kd K H x) ∧ ∀ H', Gr T H H' → Q (optN (wrongAt none xs 0)) H'
theorem rd_wrong_row : ∀ vs H Q (E : XK), spWrongRow K T vs H Q E → t_wrong_row K (spIsWhole K) (E_ Q) (start ["rows", "ahead", "at", "row"] vs) H := by
  intro vs H Q E h
  obtain ⟨a, xs, rfl, hs, hk, q⟩ := h
  unfold t_wrong_row
  walk_at "go"
  refine fr_E (T := T) hs (fun i σ H' => ∃ z ah u v, σ = [some (.ref a), z, u, v] ∧ z = some (optV ah) ∧ Gr T H H' ∧ wrongAt none xs 0 = wrongAt ah (xs.drop i) i) ⟨_, none, _, _, rfl, rfl, Gr.refl _ _, rfl⟩ (fun i σ' H' p => by
    obtain ⟨z, ah, u, v, _, _, g, _⟩ := p
    exact g) (fun i x σ' H1 H2 hx p g2 => ?_) (fun σ' H' p => ?_)
  · obtain ⟨z, ah, u, v, rfl, rfl, g1, ew⟩ := p
    have hk2 : Kd K H2 x := (g1.trans g2).kd (hk x (List.mem_of_getElem? hx))
    have ed : xs.drop i = x :: xs.drop (i + 1) := by
      have hi := (List.getElem?_eq_some_iff.mp hx).1
      rw [List.drop_eq_getElem_cons hi]
      congr 1
      exact (List.getElem?_eq_some_iff.mp hx).2
    rw [ed] at ew
    walk_at "go"
    refine ⟨x, rfl, hk2, ?_⟩
    walk_at "go"
    have gg : Gr T H H2 := g1.trans g2
    have ret : ∀ {w}, wrongAt none xs 0 = some w → Q (.int (w : Int)) H2 := fun {w} e => by
      have := q H2 gg
      rw [e] at this
      exact this
    cases x with
    | int n =>
      rw [show U.isInt (.int n) = true from rfl]
      walk_at "go"
      refine w_dec (fun e => ?_) (fun e => ?_)
      · walk_at "go"
        refine ret ?_
        rw [ew]
        unfold wrongAt
        rw [if_pos e]
      · walk_at "go"
        cases ah with
        | none =>
          have e2 : (!decide (optV none = V.non)) = false := by decide
          rw [e2]
          walk_at "go"
          refine ⟨_, some n, _, _, rfl, rfl, gg, ?_⟩
          rw [ew]
          show (if n < 1 then some i else wrongAt (some n) (xs.drop (i + 1)) (i + 1)) = _
          rw [if_neg e]
        | some m =>
          have e2 : (!decide (optV (some m) = V.non)) = true := by
            rw [decide_eq_false (fun z => nomatch z)]
            rfl
          rw [e2]
          walk_at "go"
          dsimp only [optV]
          walk_at "go"
          refine w_dec (c := m < n) (fun e3 => ?_) (fun e3 => ?_)
          · walk_at "go"
            refine ret ?_
            rw [ew]
            show (if n < 1 then some i else if m < n then some i else wrongAt (some n) (xs.drop (i + 1)) (i + 1)) = _
            rw [if_neg e, if_pos e3]
          · walk_at "go"
            refine ⟨_, some n, _, _, rfl, rfl, gg, ?_⟩
            rw [ew]
            show (if n < 1 then some i else if m < n then some i else wrongAt (some n) (xs.drop (i + 1)) (i + 1)) = _
            rw [if_neg e, if_neg e3]
    | _ =>
      first
        | (cases hk2; done)
        | (dsimp only [U.isInt]
           walk_at "go"
           exact ret ew)
  · obtain ⟨z, ah, u, v, rfl, rfl, g1, ew⟩ := p
    walk_at "go"
    have := q H' g1
    rw [ew, List.drop_length] at this
    cases ah <;> exact this
end K20
end
section
set_option Elab.async false
set_option linter.all false
set_option maxRecDepth 100000
set_option maxHeartbeats 4000000
namespace K20
open PySem PySem.Spec PyProof.Rows L2 LamX U Evl
/-! ### steps, by program -/
local macro_rules | `(tactic| walk_at "kp") => `(tactic| first
  | assumption
  | exact sqA_of (by assumption)
  | exact sqB_of (by assumption)
  | exact sqL_of (by assumption)
  | exact sqT_of (by assumption)
  | exact Or.inl (by assumption)
  | exact Or.inr (by assumption)
  | exact Gr.refl _ _
  | exact GrA.gr (by assumption)
  | (apply Gr.trans ?_ (by first | assumption | exact GrA.gr (by assumption)); walk_at "kp")
  | (apply Gr.sq; (first | assumption | exact GrA.gr (T := []) (by assumption)); walk_at "kp")
  | (apply Gr.sqL; (first | assumption | exact GrA.gr (T := []) (by assumption)); walk_at "kp")
  | (apply Gr.sqT; (first | assumption | exact GrA.gr (T := []) (by assumption)); walk_at "kp")
  | (apply Gr.lst; (first | assumption | exact GrA.gr (T := []) (by assumption)); walk_at "kp")
  | (apply Gr.tup; (first | assumption | exact GrA.gr (T := []) (by assumption)); walk_at "kp"))
local macro_rules | `(tactic| walk_at "s") => `(tactic| first
  | with_reducible first
    | refine w_seq ?_ | refine w_asg ?_ | refine w_gname ?_ | refine w_if ?_ | refine w_ret ?_ | refine w_next ?_ | refine w_drop ?_ | refine w_retN ?_ | refine w_brk ?_ | refine w_cont ?_ | refine w_gsub ?_
    | refine w_op ?_ | refine w_c ?_ | refine w_nil ?_ | refine w_cons ?_ | refine w_cb ?_ | refine w_un ?_
    | refine w_I0 ?_ | refine w_U ?_ | refine w_add ?_ | refine w_test ?_ | refine w_tB ?_ | refine w_tr ?_ | refine w_exn ?_ | refine w_trn ?_ | refine w_and ?_ | refine w_or ?_ | refine w_not ?_ | refine w_andV ?_ | refine w_orV ?_ | refine w_notV ?_ | refine w_ifE ?_
    | refine w_eqI ?_ | refine w_neI ?_ | refine w_eqS ?_ | refine w_neS ?_ | refine w_eqB ?_ | refine w_neB ?_ | refine w_isNo ?_ | refine w_notN ?_
    | refine w_call0 ?_ | refine w_tupK ?_ | refine w_lstK ?_ | refine w_bm ?_ | refine w_nop ?_ | refine w_part ?_ | refine w_exi ?_ | refine w_sl ?_
    | refine w_lcS ?_ | refine w_lcR1 ?_ | refine w_lcR2 ?_ | refine w_lcE ?_ | refine w_frS ?_ | refine w_frR1 ?_ | refine w_frR2 ?_ | refine w_frE ?_ | refine w_frT ?_
    | refine w_tYes ?_ | refine w_iteD ?_ | refine w_iteND ?_ | refine w_raise ?_ | refine raK1 ?_ | refine raK2 ?_ | refine w_iteNT ?_ | refine w_iteNF ?_ | refine w_ckw ?_ | refine w_callN ?_ | refine w_m1 ?_ | refine w_yes1 ?_ | refine w_iteT ?_ | refine w_iteF ?_ | refine w_abs ?_ | refine w_max2 ?_ | refine w_max3 ?_ | refine w_min2 ?_ | refine w_intI ?_
  | (refine w_var (by with_unfolding_all rfl) ?_)
  | (refine w_lenI (by walk_at "kp") ?_)
  | (refine w_len (by walk_at "kp") ?_)
  | (refine w_sum (by walk_at "kp") ?_)
  | (with_reducible refine lstK ?_ ?_; exact Nat.le_of_ble_eq_true rfl)
  | (with_reducible refine tupK ?_ ?_; exact Nat.le_of_ble_eq_true rfl)
  | (refine w_list (by walk_at "kp") ?_)
  | (refine w_tuple (by walk_at "kp") ?_)
  | (refine w_slI (by walk_at "kp") ?_)
  | (refine w_inI (by walk_at "kp") ?_)
  | (refine w_notInI (by walk_at "kp") ?_))
local macro_rules | `(tactic| walk_at "go") => `(tactic| repeat' (walk_at "s"))
variable {K : PySem.W.Frag} {T : List (Addr × Str)}
def spAskCells (K : PySem.W.Frag) (T : List (Addr × Str)) : Sp := fun vs H Q E => ∃ n : Int, vs = [.int n] ∧ (n ≤ 30 → Q .non H) ∧ (30 < n → Many K T H E "cells" n)
theorem rd_ask_cells : ∀ vs H Q (E : XK), spAskCells K T vs H Q E → t_ask_cells K E (E_ Q) (start ["count"] vs) H := by
  intro vs H Q E h
  obtain ⟨n, rfl, q1, q2⟩ := h
  unfold t_ask_cells
  walk_at "go"
  refine w_dec (fun e => ?_) (fun e => ?_)
  · walk_at "go"
    intro d H' g hd
    exact q2 e d H' (g T) hd
  · walk_at "go"
    exact q1 (by omega)
def spAskText (K : PySem.W.Frag) : Sp := fun vs H Q E => ∃ n : Int, vs = [.int n] ∧ n ≤ 60000 ∧ Q .non H
theorem rd_ask_text : ∀ vs H Q (E : XK), spAskText K vs H Q E → t_ask_text K E (E_ Q) (start ["count"] vs) H := by
  intro vs H Q E h
  obtain ⟨n, rfl, h1, q⟩ := h
  unfold t_ask_text
  walk_at "go"
  refine w_dec (fun e => ?_) (fun e => ?_)
  · omega
  · walk_at "go"
    exact q
def spAskSite (K : PySem.W.Frag) (T : List (Addr × Str)) : Sp := fun vs H Q E => ∃ n : Int, vs = [.int n] ∧ (n.natAbs ≤ 60 → Q .non H) ∧ (60 < n.natAbs → Many K T H E "site" n.natAbs)
theorem rd_ask_site : ∀ vs H Q (E : XK), spAskSite K T vs H Q E → t_ask_site K E (E_ Q) (start ["site"] vs) H := by
  intro vs H Q E h
  obtain ⟨n, rfl, q1, q2⟩ := h
  unfold t_ask_site
  walk_at "go"
  refine w_dec (fun e => ?_) (fun e => ?_)
  · walk_at "go"
    intro d H' g hd
    exact q2 (by omega) d H' (g T) hd
  · walk_at "go"
    exact q1 (by omega)
/-! words -/
def isDig (z : Str) : Bool := !decide (z = "") && (z.cps.toList.all fun c => decide (c ∈ ("0123456789" : Str).cps.toList)) && (decide (z = "0") || !decide ((⟨#[z.cps.toList.getD 0 0]⟩ : Str) = "0"))
def spIsDigits : Sp := fun vs H Q _ => ∃ z : Str, vs = [.str z] ∧ z.length ≤ 640 ∧ Q (.bl (isDig z)) H
theorem rd_is_digits : ∀ vs H Q (E : XK), spIsDigits vs H Q E → t_is_digits K (E_ Q) (start ["text", "sign"] vs) H := by
  intro vs H Q E h
  obtain ⟨z, rfl, hz, q⟩ := h
  unfold t_is_digits
  walk_at "go"
  unfold isDig at q
  refine w_dec (fun e => ?_) (fun e => ?_)
  · walk_at "go"
    rw [decide_eq_true e] at q
    exact q
  · walk_at "go"
    rw [decide_eq_false e] at q
    refine fr_T (fun i σ H' => H' = H ∧ (∃ u, σ = [some (.str z), u]) ∧ ∀ c ∈ z.cps.toList.take i, c ∈ ("0123456789" : Str).cps.toList) ⟨rfl, ⟨_, rfl⟩, by simp⟩ (fun i c σ' H' hc p => ?_) (fun σ' H' p => ?_)
    · obtain ⟨rfl, ⟨u, rfl⟩, p⟩ := p
      have hm : c ∈ z.cps.toList := by
        have h2 := List.mem_of_getElem? (l := z.cps.toList) (i := i) (by rw [Array.getElem?_toList]; exact hc)
        exact h2
      walk_at "go"
      refine w_notInC ?_
      walk_at "go"
      refine w_ndec (fun e2 => ?_) (fun e2 => ?_)
      · walk_at "go"
        have e3 : (z.cps.toList.all fun c => decide (c ∈ ("0123456789" : Str).cps.toList)) = false := by
          rw [List.all_eq_false]
          exact ⟨c, hm, by simpa using e2⟩
        rw [e3] at q
        exact q
      · walk_at "go"
        refine ⟨rfl, ⟨_, rfl⟩, fun d hd => ?_⟩
        rw [List.take_add_one, Array.getElem?_toList, hc] at hd
        rcases List.mem_append.mp hd with h3 | h3
        · exact p d h3
        · have : d = c := by simpa using h3
          rw [this]
          exact e2
    · obtain ⟨rfl, ⟨u, rfl⟩, p⟩ := p
      have e3 : (z.cps.toList.all fun c => decide (c ∈ ("0123456789" : Str).cps.toList)) = true := by
        rw [List.all_eq_true]
        intro c hc
        exact decide_eq_true (p c (by rw [List.take_of_length_le (by simp)]; exact hc))
      rw [e3] at q
      have hne : z.cps.toList ≠ [] := fun e4 => by
        refine e ?_
        obtain ⟨zc⟩ := z
        have : zc = #[] := by
          cases zc
          simpa using e4
        rw [this]
        rfl
      obtain ⟨c, r, ec⟩ : ∃ c r, z.cps.toList = c :: r := by
        cases h5 : z.cps.toList with
        | nil => exact absurd h5 hne
        | cons c r => exact ⟨c, r, rfl⟩
      walk_at "go"
      refine w_bool (fun e4 => ?_) (fun e4 => ?_)
      · rw [e4] at q
        exact q
      · rw [e4] at q
        walk_at "go"
        refine ⟨c, Nat.le_trans hz (by decide), by rw [ec]; exact atI_nat (j := 0) rfl, ?_⟩
        walk_at "go"
        rw [ec] at q
        exact q
def spWholeOf : Sp := fun vs H Q _ => ∃ (z : Str) (n : Int), vs = [.str z] ∧ z.length ≤ 640 ∧ PySem.intText? z = some n ∧ Q (.int n) H
theorem rd_whole_of : ∀ vs H Q (E : XK), spWholeOf vs H Q E → t_whole_of K (E_ Q) (start ["text", "first", "value", "step", "at"] vs) H := by
  intro vs H Q E h
  obtain ⟨z, n, rfl, hz, hn, q⟩ := h
  unfold t_whole_of
  walk_at "go"
  refine w_lenS (Nat.le_trans hz (by decide)) ?_
  walk_at "go"
  refine w_dec (fun e => ?_) (fun e => ?_)
  · walk_at "go"
    exact ⟨n, hn, hz, q⟩
  · omega
/-- words and what they are worth -/
def worth (z : Str) : V := if isDig z = true then .int ((PySem.intText? z).getD 0) else .str z
def spWordWorth : Sp := fun vs H Q _ => ∃ z : Str, vs = [.str z] ∧ z.length ≤ 640 ∧ (isDig z = true → (PySem.intText? z).isSome = true) ∧ Q (worth z) H
theorem rd_word_worth : ∀ vs H Q (E : XK), spWordWorth vs H Q E → t_word_worth K spIsDigits spWholeOf (E_ Q) (start ["word"] vs) H := by
  intro vs H Q E h
  obtain ⟨z, rfl, hz, hi, q⟩ := h
  unfold t_word_worth
  walk_at "go"
  refine ⟨z, rfl, hz, ?_⟩
  walk_at "go"
  unfold worth at q
  refine w_bool (fun e => ?_) (fun e => ?_)
  · walk_at "go"
    obtain ⟨n, hn⟩ := Option.isSome_iff_exists.mp (hi e)
    rw [if_pos e, hn] at q
    exact ⟨z, n, rfl, hz, hn, q⟩
  · walk_at "go"
    rw [if_neg (by rw [e]; decide)] at q
    exact q
def strLen : V → Int
  | .str z => z.length
  | _ => 0
def spAskRowTexts (K : PySem.W.Frag) (T : List (Addr × Str)) : Sp := fun vs H Q E => ∃ a xs, vs = [.ref a] ∧ Sq K H a xs ∧ xs.length ≤ 1000 ∧ (∀ x ∈ xs, Kd K H x) ∧ (∀ z, V.str z ∈ xs → z.length ≤ 640) ∧ ∀ H', Gr T H H' → Q .non H'
theorem rd_ask_row_texts : ∀ vs H Q (E : XK), spAskRowTexts K T vs H Q E → t_ask_row_texts K (spAskText K) E (E_ Q) (start ["things", "thing"] vs) H := by
  intro vs H Q E h
  obtain ⟨a, xs, rfl, hs, hl, hk, hz, q⟩ := h
  unfold t_ask_row_texts
  walk_at "go"
  refine lc_S (T := T) hs U.isStr (fun x => .int (strLen x)) (by omega) (fun _ => rfl) (fun x hx H2 g2 Yes No hy hn => ?_) (fun D H3 g3 nD h3 => ?_)
  · walk_at "go"
    refine isi_str (g2.kd (hk x hx)) ?_
    walk_at "go"
    refine w_bool (fun e => ?_) (fun e => ?_)
    · walk_at "go"
      cases x with
      | str z =>
        refine w_lenS (Nat.le_trans (hz z hx) (by decide)) ?_
        exact hy rfl _ (Gr.refl _ _)
      | _ => exact Bool.noConfusion e
    · exact hn e _ (Gr.refl _ _)
  · walk_at "go"
    have eb : ∀ m ∈ (xs.filter U.isStr).map strLen, m ≤ 640 := fun m hm => by
      obtain ⟨x, hx, rfl⟩ := List.mem_map.mp hm
      obtain ⟨h1, h2⟩ := List.mem_filter.mp hx
      cases x with
      | str z =>
        have := hz z h1
        show (z.length : Int) ≤ 640
        omega
      | _ => exact Bool.noConfusion h2
    refine ⟨D, (xs.filter U.isStr).map strLen, 0, rfl, rfl, sqL_of (by rw [h3, List.map_map] <;> rfl), ?_⟩
    refine ⟨_, rfl, ?_, q H3 g3⟩
    have key : ∀ (l : List Int) (m : Int), m ≤ 640 → (∀ x ∈ l, x ≤ 640) → l.foldl max m ≤ 640 := by
      intro l
      induction l with
      | nil => intro m hm _; exact hm
      | cons y r ih =>
        intro m hm h
        exact ih _ (Int.max_le.mpr ⟨hm, h y (List.mem_cons_self ..)⟩) fun x hx => h x (List.mem_cons_of_mem _ hx)
    cases el : (xs.filter U.isStr).map strLen with
    | nil => show (0 : Int) ≤ 60000; decide
    | cons m r =>
      rw [el] at eb
      have := key r m (eb m (List.mem_cons_self ..)) fun x hx => eb x (List.mem_cons_of_mem _ hx)
      show r.foldl max m ≤ 60000
      omega
end K20
end
section
set_option Elab.async false
set_option linter.all false
set_option maxRecDepth 100000
set_option maxHeartbeats 4000000
namespace K20
open PySem PySem.Spec PyProof.Rows L2 LamX U Evl
/-! ### steps, by program -/
local macro_rules | `(tactic| walk_at "kp") => `(tactic| first
  | assumption
  | exact sqA_of (by assumption)
  | exact sqB_of (by assumption)
  | exact sqL_of (by assumption)
  | exact sqT_of (by assumption)
  | exact Or.inl (by assumption)
  | exact Or.inr (by assumption)
  | exact Gr.refl _ _
  | exact GrA.gr (by assumption)
  | (apply Gr.trans ?_ (by first | assumption | exact GrA.gr (by assumption)); walk_at "kp")
  | (apply Gr.sq; (first | assumption | exact GrA.gr (T := []) (by assumption)); walk_at "kp")
  | (apply Gr.sqL; (first | assumption | exact GrA.gr (T := []) (by assumption)); walk_at "kp")
  | (apply Gr.sqT; (first | assumption | exact GrA.gr (T := []) (by assumption)); walk_at "kp")
  | (apply Gr.lst; (first | assumption | exact GrA.gr (T := []) (by assumption)); walk_at "kp")
  | (apply Gr.tup; (first | assumption | exact GrA.gr (T := []) (by assumption)); walk_at "kp"))
local macro_rules | `(tactic| walk_at "s") => `(tactic| first
  | with_reducible first
    | refine w_seq ?_ | refine w_asg ?_ | refine w_gname ?_ | refine w_if ?_ | refine w_ret ?_ | refine w_next ?_ | refine w_drop ?_ | refine w_retN ?_ | refine w_brk ?_ | refine w_cont ?_ | refine w_gsub ?_
    | refine w_op ?_ | refine w_c ?_ | refine w_nil ?_ | refine w_cons ?_ | refine w_cb ?_ | refine w_un ?_
    | refine w_I0 ?_ | refine w_U ?_ | refine w_add ?_ | refine w_test ?_ | refine w_tB ?_ | refine w_tr ?_ | refine w_exn ?_ | refine w_trn ?_ | refine w_and ?_ | refine w_or ?_ | refine w_not ?_ | refine w_andV ?_ | refine w_orV ?_ | refine w_notV ?_ | refine w_ifE ?_
    | refine w_eqI ?_ | refine w_neI ?_ | refine w_eqS ?_ | refine w_neS ?_ | refine w_eqB ?_ | refine w_neB ?_ | refine w_isNo ?_ | refine w_notN ?_
    | refine w_call0 ?_ | refine w_tupK ?_ | refine w_lstK ?_ | refine w_bm ?_ | refine w_nop ?_ | refine w_part ?_ | refine w_exi ?_ | refine w_sl ?_
    | refine w_lcS ?_ | refine w_lcR1 ?_ | refine w_lcR2 ?_ | refine w_lcE ?_ | refine w_frS ?_ | refine w_frR1 ?_ | refine w_frR2 ?_ | refine w_frE ?_ | refine w_frT ?_
    | refine w_tYes ?_ | refine w_iteD ?_ | refine w_iteND ?_ | refine w_raise ?_ | refine raK1 ?_ | refine raK2 ?_ | refine w_iteNT ?_ | refine w_iteNF ?_ | refine w_ckw ?_ | refine w_callN ?_ | refine w_m1 ?_ | refine w_yes1 ?_ | refine w_iteT ?_ | refine w_iteF ?_ | refine w_abs ?_ | refine w_max2 ?_ | refine w_max3 ?_ | refine w_min2 ?_ | refine w_intI ?_
  | (refine w_var (by with_unfolding_all rfl) ?_)
  | (refine w_lenI (by walk_at "kp") ?_)
  | (refine w_len (by walk_at "kp") ?_)
  | (refine w_sum (by walk_at "kp") ?_)
  | (with_reducible refine lstK ?_ ?_; exact Nat.le_of_ble_eq_true rfl)
  | (with_reducible refine tupK ?_ ?_; exact Nat.le_of_ble_eq_true rfl)
  | (refine w_list (by walk_at "kp") ?_)
  | (refine w_tuple (by walk_at "kp") ?_)
  | (refine w_slI (by walk_at "kp") ?_)
  | (refine w_inI (by walk_at "kp") ?_)
  | (refine w_notInI (by walk_at "kp") ?_))
local macro_rules | `(tactic| walk_at "go") => `(tactic| repeat' (walk_at "s"))
variable {K : PySem.W.Frag} {T : List (Addr × Str)}
inductive Other (H : Hp) : V → Prop
  | non : Other H .non
  | int (i : Int) : Other H (.int i)
  | bl (b : Bool) : Other H (.bl b)
  | dct {a : Addr} {kvs : List (Key × V)} (h : H a = some (.dK kvs)) : Other H (.ref a)
theorem Gr.other {T : List (Addr × Str)} {H H' : Hp} {v : V} (g : Gr T H H') (h : Other H v) : Other H' v := by
  cases h with
  | non => exact .non
  | int i => exact .int i
  | bl b => exact .bl b
  | dct h => exact .dct (g.keep _ _ h fun ps z => by cases z)
theorem other_ty {H : Hp} {v : V} (h : Other H v) : ∃ t : String, TyX K H v (.type t) ∧ kitB t "str" = some false ∧ kitB t "list" = some false ∧ kitB t "tuple" = some false := by
  cases h with
  | non => exact ⟨_, tyx_non, by decide +kernel, by decide +kernel, by decide +kernel⟩
  | int i => exact ⟨_, tyx_int, by decide +kernel, by decide +kernel, by decide +kernel⟩
  | bl b => exact ⟨_, tyx_bl, by decide +kernel, by decide +kernel, by decide +kernel⟩
  | dct h => exact ⟨"dict", .base (.dK h), by decide +kernel, by decide +kernel, by decide +kernel⟩
inductive RowsArg (K : PySem.W.Frag) (H : Hp) : V → List V → Prop
  | seq {a : Addr} {xs : List V} (hs : Sq K H a xs) (hl : xs.length ≤ 1000) (hk : ∀ x ∈ xs, Kd K H x) (hz : ∀ z, V.str z ∈ xs → z.length ≤ 640) : RowsArg K H (.ref a) xs
  | bare : RowsArg K H (.str "bare") []
  | other {v : V} (ho : Other H v) : RowsArg K H v [.non]
  | text {z : Str} (hz : z.length ≤ 60000) (hb : z ≠ "bare") (hw : ∀ y ∈ Txt.split z " ", y.length ≤ 640 ∧ (isDig y = true → (PySem.intText? y).isSome = true)) (hl : (Txt.split z " ").length ≤ 60000) : RowsArg K H (.str z) ((Txt.split z " ").map worth)
theorem Gr.rowsArg {H H' : Hp} {v : V} {xs : List V} (g : Gr T H H') (h : RowsArg K H v xs) : RowsArg K H' v xs := by
  cases h with
  | seq hs hl hk hz => exact .seq (g.sq hs) hl (fun x hx => g.kd (hk x hx)) hz
  | bare => exact .bare
  | other ho => exact .other (Gr.other g ho)
  | text hz hb hw hl => exact .text hz hb hw hl
theorem wrong_ints : ∀ {xs : List V} {ah : Option Int} {i : Nat}, wrongAt ah xs i = none → ∃ rows : List Int, xs = rows.map V.int
  | [], _, _, _ => ⟨[], rfl⟩
  | .int n :: r, ah, i, h => by
    have key : ∀ {m : Option Int} {j : Nat}, wrongAt m r j = none → ∃ rows : List Int, V.int n :: r = rows.map V.int := fun {m j} e => by
      obtain ⟨rows, er⟩ := wrong_ints e
      exact ⟨n :: rows, by rw [er] <;> rfl⟩
    unfold wrongAt at h
    split at h
    · cases h
    · cases ah with
      | none => exact key h
      | some m =>
        dsimp only at h
        split at h
        · cases h
        · exact key h
  | .non :: r, _, _, h => by cases h
  | .bl _ :: r, _, _, h => by cases h
  | .str _ :: r, _, _, h => by cases h
  | .byt _ :: r, _, _, h => by cases h
  | .flt _ :: r, _, _, h => by cases h
  | .ref _ :: r, _, _, h => by cases h
  | .ty _ :: r, _, _, h => by cases h
def spRowsOf (K : PySem.W.Frag) (T : List (Addr × Str)) : Sp := fun vs H Q E => ∃ v xs, vs = [v] ∧ RowsArg K H v xs ∧ (wrongAt none xs 0 = none → ∀ (rows : List Int) a H', xs = rows.map .int → Gr T H H' → SqT K H' a (rows.map .int) → Q (.ref a) H') ∧ (∀ w, wrongAt none xs 0 = some w → Bad K T H E (w : Int))
theorem rd_rows_of : ∀ vs H Q (E : XK), spRowsOf K T vs H Q E → t_rows_of K (spAskText K) spWordWorth (spAskRowTexts K T) (spWrongRow K T) E (E_ Q) (start ["thing", "wrong", "rows", "word"] vs) H := by
  intro vs H Q E h
  obtain ⟨v, xs, rfl, ha, q1, q2⟩ := h
  unfold t_rows_of
  -- the end: the list of what was read stands at l
  have fin : ∀ (l : Addr) (H1 : Hp) (u w : Option V), Gr T H H1 → SqL K H1 l xs → (∀ x ∈ xs, Kd K H1 x) → (tSeq (tAsg (tCall (spWrongRow K T) [] E (tCons (tVar 2) tNil)) (gName 1))
      (tSeq (tIfS (tTest (tOp rNotN (tVar 1) (tC V.non))) (tRaise (He.ga K "BadShape") ["at"] (fun cls d _ H => E cls d H) (tCons (tVar 1) tNil)) tNext) (tRet (tCB (uTup K) (tCons (tVar 2) tNil))))) (E_ Q) [some v, u, some (.ref l), w] H1 := by
    intro l H1 u w g1 hl hk
    walk_at "go"
    refine ⟨l, xs, rfl, hl, hk, fun H2 g2 => ?_⟩
    walk_at "go"
    cases e : wrongAt none xs 0 with
    | none =>
      have e2 : (!decide (optN none = V.non)) = false := by decide
      rw [e2]
      obtain ⟨rows, er⟩ := wrong_ints e
      walk_at "go"
      intro l2 H3 g3 h3
      walk_at "go"
      exact q1 e rows l2 H3 er (by walk_at "kp") (by rw [← er]; exact h3)
    | some m =>
      have e2 : (!decide (optN (some m) = V.non)) = true := by
        rw [decide_eq_false (fun z => nomatch z)]
        rfl
      rw [e2]
      walk_at "go"
      intro d H3 g3 h3
      exact q2 m e d H3 (by walk_at "kp") h3
  walk_at "go"
  cases ha with
  | seq hs hl hk hz =>
    rename_i a
    refine isi_strN hs ?_
    walk_at "go"
    intro p H1 np g1 h1
    walk_at "go"
    refine isi_seqLT h1 ((g1 T).sq hs) ?_
    walk_at "go"
    refine ⟨a, xs, rfl, (g1 T).sq hs, hl, fun x hx => (g1 T).kd (hk x hx), hz, fun H2 g2 => ?_⟩
    walk_at "go"
    intro l H3 nl g3 h3
    walk_at "go"
    have z := fin l H3 none none (by walk_at "kp") (sqL_of h3) fun x hx => (g3 T).kd (g2.kd ((g1 T).kd (hk x hx)))
    unfold tSeq tAsg tCall tCons tNil at z
    obtain ⟨v, e1, z⟩ := z
    have e1 : V.ref l = v := Option.some.inj (Option.some.inj e1)
    subst e1
    exact z
  | bare =>
    refine w_isi tyx_str (b := true) (by decide +kernel) ?_
    walk_at "go"
    refine w_lenS (by decide) ?_
    walk_at "go"
    refine ⟨4, rfl, by decide, ?_⟩
    walk_at "go"
    intro p H1 np g1 h1
    walk_at "go"
    exact q1 rfl [] p H1 rfl (g1 T) (sqT_of h1)
  | other ho =>
    obtain ⟨t, ty, k1, k2, k3⟩ := other_ty (K := K) ho
    refine w_isi ty k1 ?_
    walk_at "go"
    intro p H1 np g1 h1
    walk_at "go"
    obtain ⟨t, ty, k1, k2, k3⟩ := other_ty (K := K) (Gr.other (g1 T) ho)
    refine w_isiT h1 ty k2 k3 ?_
    walk_at "go"
    refine w_no rfl ?_
    walk_at "go"
    intro d H3 g3 h3
    exact q2 0 rfl d H3 (by walk_at "kp") h3
  | text hz hb hw hl =>
    rename_i z
    refine w_isi tyx_str (b := true) (by decide +kernel) ?_
    walk_at "go"
    refine w_lenS (Nat.le_trans hz (by decide)) ?_
    walk_at "go"
    refine ⟨_, rfl, by omega, ?_⟩
    walk_at "go"
    rw [decide_eq_false hb]
    walk_at "go"
    refine ⟨z, " ", rfl, rfl, by decide, Nat.le_trans (Nat.add_le_add_right hz 2) (by decide), fun p np => ?_⟩
    have gp : GrA H (upd H p (.lst ((Txt.split z " ").map V.str))) := .new np
    refine lc_S (T := T) (sqA_of upd_same) (fun _ => true) (fun x => match x with | .str y => worth y | _ => .non) (by rw [List.length_map]; omega) (fun _ => rfl) (fun x hx H2 g2 Yes No hy hn => ?_) (fun D H3 g3 nD h3 => ?_)
    · obtain ⟨y, hy2, rfl⟩ := List.mem_map.mp hx
      walk_at "go"
      exact ⟨y, rfl, (hw y hy2).1, (hw y hy2).2, hy rfl _ (Gr.refl _ _)⟩
    · walk_at "go"
      have z := fin D H3 none none ((gp T).trans g3) (sqL_of (by rw [h3, List.filter_eq_self.mpr (fun _ _ => rfl), List.map_map] <;> rfl)) fun x hx => by
        obtain ⟨y, _, rfl⟩ := List.mem_map.mp hx
        unfold worth
        split
        · exact .int _
        · exact .str _
      unfold tSeq tAsg tCall tCons tNil at z
      obtain ⟨v, e1, z⟩ := z
      have e1 : V.ref D = v := Option.some.inj (Option.some.inj e1)
      subst e1
      exact z
theorem Bad.up {H H1 : Hp} {E : XK} {w : Int} (g : Gr T H H1) (h : Bad K T H E w) : Bad K T H1 E w := fun d H' g2 e => h d H' (g.trans g2) e
theorem Many.up {H H1 : Hp} {E : XK} {w : Str} {n : Int} (g : Gr T H H1) (h : Many K T H E w n) : Many K T H1 E w n := fun d H' g2 e => h d H' (g.trans g2) e
end K20
end
section
set_option Elab.async false
set_option linter.all false
set_option maxRecDepth 100000
set_option maxHeartbeats 4000000
namespace K20
open PySem PySem.Spec PyProof.Rows L2 LamX U Evl
/-! ### steps, by program -/
local macro_rules | `(tactic| walk_at "kp") => `(tactic| first
  | assumption
  | exact sqA_of (by assumption)
  | exact sqB_of (by assumption)
  | exact sqL_of (by assumption)
  | exact sqT_of (by assumption)
  | exact Or.inl (by assumption)
  | exact Or.inr (by assumption)
  | exact Gr.refl _ _
  | exact GrA.gr (by assumption)
  | (apply Gr.trans ?_ (by first | assumption | exact GrA.gr (by assumption)); walk_at "kp")
  | (apply Gr.sq; (first | assumption | exact GrA.gr (T := []) (by assumption)); walk_at "kp")
  | (apply Gr.sqL; (first | assumption | exact GrA.gr (T := []) (by assumption)); walk_at "kp")
  | (apply Gr.sqT; (first | assumption | exact GrA.gr (T := []) (by assumption)); walk_at "kp")
  | (apply Gr.lst; (first | assumption | exact GrA.gr (T := []) (by assumption)); walk_at "kp")
  | (apply Gr.tup; (first | assumption | exact GrA.gr (T := []) (by assumption)); walk_at "kp"))
local macro_rules | `(tactic| walk_at "s") => `(tactic| first
  | with_reducible first
    | refine w_seq ?_ | refine w_asg ?_ | refine w_gname ?_ | refine w_if ?_ | refine w_ret ?_ | refine w_next ?_ | refine w_drop ?_ | refine w_retN ?_ | refine w_brk ?_ | refine w_cont ?_ | refine w_gsub ?_
    | refine w_op ?_ | refine w_c ?_ | refine w_nil ?_ | refine w_cons ?_ | refine w_cb ?_ | refine w_un ?_
    | refine w_I0 ?_ | refine w_U ?_ | refine w_add ?_ | refine w_test ?_ | refine w_tB ?_ | refine w_tr ?_ | refine w_exn ?_ | refine w_trn ?_ | refine w_and ?_ | refine w_or ?_ | refine w_not ?_ | refine w_andV ?_ | refine w_orV ?_ | refine w_notV ?_ | refine w_ifE ?_
    | refine w_eqI ?_ | refine w_neI ?_ | refine w_eqS ?_ | refine w_neS ?_ | refine w_eqB ?_ | refine w_neB ?_ | refine w_isNo ?_ | refine w_notN ?_
    | refine w_call0 ?_ | refine w_tupK ?_ | refine w_lstK ?_ | refine w_bm ?_ | refine w_nop ?_ | refine w_part ?_ | refine w_exi ?_ | refine w_sl ?_
    | refine w_lcS ?_ | refine w_lcR1 ?_ | refine w_lcR2 ?_ | refine w_lcE ?_ | refine w_frS ?_ | refine w_frR1 ?_ | refine w_frR2 ?_ | refine w_frE ?_ | refine w_frT ?_
    | refine w_tYes ?_ | refine w_iteD ?_ | refine w_iteND ?_ | refine w_raise ?_ | refine raK1 ?_ | refine raK2 ?_ | refine w_iteNT ?_ | refine w_iteNF ?_ | refine w_ckw ?_ | refine w_callN ?_ | refine w_m1 ?_ | refine w_yes1 ?_ | refine w_iteT ?_ | refine w_iteF ?_ | refine w_abs ?_ | refine w_max2 ?_ | refine w_max3 ?_ | refine w_min2 ?_ | refine w_intI ?_
  | (refine w_var (by with_unfolding_all rfl) ?_)
  | (refine w_lenI (by walk_at "kp") ?_)
  | (refine w_len (by walk_at "kp") ?_)
  | (refine w_sum (by walk_at "kp") ?_)
  | (with_reducible refine lstK ?_ ?_; exact Nat.le_of_ble_eq_true rfl)
  | (with_reducible refine tupK ?_ ?_; exact Nat.le_of_ble_eq_true rfl)
  | (refine w_list (by walk_at "kp") ?_)
  | (refine w_tuple (by walk_at "kp") ?_)
  | (refine w_slI (by walk_at "kp") ?_)
  | (refine w_inI (by walk_at "kp") ?_)
  | (refine w_notInI (by walk_at "kp") ?_))
local macro_rules | `(tactic| walk_at "go") => `(tactic| repeat' (walk_at "s"))
variable {K : PySem.W.Frag} {T : List (Addr × Str)}
/-- a pair of two new lists of ints -/
def Two (K : PySem.W.Frag) (H H' : Hp) (v : V) (xs ys : List Int) : Prop := ∃ p a b, v = .ref p ∧ H' p = some (.tup [.ref a, .ref b]) ∧ H' a = some (.lst (xs.map .int)) ∧ H' b = some (.lst (ys.map .int)) ∧ H a = none ∧ H b = none ∧ a ≠ b
theorem rgI_len (lo hi : Int) : (rgI lo hi).length = (hi - lo).toNat := by
  unfold rgI
  rw [List.length_map, List.length_range]
theorem rgI_get {lo hi : Int} {i : Nat} (h : lo + i < hi) : (rgI lo hi)[i]? = some (lo + i) := by
  unfold rgI
  rw [List.getElem?_map, List.getElem?_range (by omega)] <;> rfl
theorem filter_take_succ {p : Int → Bool} {l : List Int} {i : Nat} {x : Int} (h : l[i]? = some x) : (l.take (i + 1)).filter p = (l.take i).filter p ++ (if p x = true then [x] else []) := by
  rw [List.take_add_one, h, List.filter_append]
  congr 1
  show [x].filter p = _
  rw [List.filter_cons]
  rfl
end K20
end
section
set_option Elab.async false
set_option linter.all false
set_option maxRecDepth 100000
set_option maxHeartbeats 4000000
namespace K20
open PySem PySem.Spec PyProof.Rows L2 LamX U Evl
/-! ### steps, by program -/
local macro_rules | `(tactic| walk_at "kp") => `(tactic| first
  | assumption
  | exact sqA_of (by assumption)
  | exact sqB_of (by assumption)
  | exact sqL_of (by assumption)
  | exact sqT_of (by assumption)
  | exact Or.inl (by assumption)
  | exact Or.inr (by assumption)
  | exact Gr.refl _ _
  | exact GrA.gr (by assumption)
  | (apply Gr.trans ?_ (by first | assumption | exact GrA.gr (by assumption)); walk_at "kp")
  | (apply Gr.sq; (first | assumption | exact GrA.gr (T := []) (by assumption)); walk_at "kp")
  | (apply Gr.sqL; (first | assumption | exact GrA.gr (T := []) (by assumption)); walk_at "kp")
  | (apply Gr.sqT; (first | assumption | exact GrA.gr (T := []) (by assumption)); walk_at "kp")
  | (apply Gr.lst; (first | assumption | exact GrA.gr (T := []) (by assumption)); walk_at "kp")
  | (apply Gr.tup; (first | assumption | exact GrA.gr (T := []) (by assumption)); walk_at "kp"))
local macro_rules | `(tactic| walk_at "s") => `(tactic| first
  | with_reducible first
    | refine w_seq ?_ | refine w_asg ?_ | refine w_gname ?_ | refine w_if ?_ | refine w_ret ?_ | refine w_next ?_ | refine w_drop ?_ | refine w_retN ?_ | refine w_brk ?_ | refine w_cont ?_ | refine w_gsub ?_
    | refine w_op ?_ | refine w_c ?_ | refine w_nil ?_ | refine w_cons ?_ | refine w_cb ?_ | refine w_un ?_
    | refine w_I0 ?_ | refine w_U ?_ | refine w_add ?_ | refine w_test ?_ | refine w_tB ?_ | refine w_tr ?_ | refine w_exn ?_ | refine w_trn ?_ | refine w_and ?_ | refine w_or ?_ | refine w_not ?_ | refine w_andV ?_ | refine w_orV ?_ | refine w_notV ?_ | refine w_ifE ?_
    | refine w_eqI ?_ | refine w_neI ?_ | refine w_eqS ?_ | refine w_neS ?_ | refine w_eqB ?_ | refine w_neB ?_ | refine w_isNo ?_ | refine w_notN ?_
    | refine w_call0 ?_ | refine w_tupK ?_ | refine w_lstK ?_ | refine w_bm ?_ | refine w_nop ?_ | refine w_part ?_ | refine w_exi ?_ | refine w_sl ?_
    | refine w_lcS ?_ | refine w_lcR1 ?_ | refine w_lcR2 ?_ | refine w_lcE ?_ | refine w_frS ?_ | refine w_frR1 ?_ | refine w_frR2 ?_ | refine w_frE ?_ | refine w_frT ?_
    | refine w_tYes ?_ | refine w_iteD ?_ | refine w_iteND ?_ | refine w_raise ?_ | refine raK1 ?_ | refine raK2 ?_ | refine w_iteNT ?_ | refine w_iteNF ?_ | refine w_ckw ?_ | refine w_callN ?_ | refine w_m1 ?_ | refine w_yes1 ?_ | refine w_iteT ?_ | refine w_iteF ?_ | refine w_abs ?_ | refine w_max2 ?_ | refine w_max3 ?_ | refine w_min2 ?_ | refine w_intI ?_
  | (refine w_var (by with_unfolding_all rfl) ?_)
  | (refine w_lenI (by walk_at "kp") ?_)
  | (refine w_len (by walk_at "kp") ?_)
  | (refine w_sum (by walk_at "kp") ?_)
  | (with_reducible refine lstK ?_ ?_; exact Nat.le_of_ble_eq_true rfl)
  | (with_reducible refine tupK ?_ ?_; exact Nat.le_of_ble_eq_true rfl)
  | (refine w_list (by walk_at "kp") ?_)
  | (refine w_tuple (by walk_at "kp") ?_)
  | (refine w_slI (by walk_at "kp") ?_)
  | (refine w_inI (by walk_at "kp") ?_)
  | (refine w_notInI (by walk_at "kp") ?_))
local macro_rules | `(tactic| walk_at "go") => `(tactic| repeat' (walk_at "s"))
variable {K : PySem.W.Frag} {T : List (Addr × Str)}
/-! ### the jar -/
def spBagL (K : PySem.W.Frag) : Sp := fun vs H Q _ => ∃ (a : Addr) (ns : List Int), vs = [.ref a] ∧ SqL K H a (ns.map .int) ∧ ∀ J c jv ms H', (GrA H H') → H J = none → H' J = some (.lst jv) → JarV c jv → SqL K H' c (List.map V.int ms) → ms.length ≤ 63 → c ≠ J → Q (.ref J) H'
theorem rd_law_bag : ∀ vs H Q (E : XK), spBagL K vs H Q E → t__law_bag K (E_ Q) (start ["script", "stir", "cell"] vs) H := by
  intro vs H Q E h
  obtain ⟨a, ns, rfl, hs, q⟩ := h
  unfold t__law_bag
  have h0 : Sq K H a (ns.map V.int) := .inl hs
  walk_at "go"
  intro z1 H1 g1 h1
  rw [show (some (63 : Int)) = some ((63 : Nat) : Int) from rfl, cutI_take] at h1
  refine fr_S (T := []) h1 (fun i σ H' => H' = H1 ∧ ∃ (s : Int) (u : Option V), σ = [some (.ref a), some (.int s), u] ∧ 0 ≤ s ∧ s < 2147483579) ⟨rfl, 19609, _, rfl, by decide, by decide⟩ (fun i σ' H' p => by rw [p.1]; exact Gr.refl _ _) (fun i x σ' H' hx p => ?_) (fun σ' H' p => ?_)
  · obtain ⟨rfl, s, u, rfl, s0, s1⟩ := p
    rw [List.getElem?_map] at hx
    obtain ⟨n, hn, rfl⟩ := Option.map_eq_some_iff.mp hx
    walk_at "go"
    refine w_mul (.inr ⟨by decide, by decide⟩) ?_
    walk_at "go"
    refine w_I (show (0 : Int) < 2147483549 by decide) ?_
    walk_at "go"
    refine w_I (show (0 : Int) < 2147483579 by decide) ?_
    walk_at "go"
    exact ⟨rfl, _, _, rfl, Int.emod_nonneg _ (by decide), Int.emod_lt_of_pos _ (by decide)⟩
  · obtain ⟨rfl, s, u, rfl, s0, s1⟩ := p
    have h0' : Sq K H' a (ns.map V.int) := (g1 []).sq h0
    walk_at "go"
    intro z2 H2 g2 h2
    rw [show (some (63 : Int)) = some ((63 : Nat) : Int) from rfl, cutI_take] at h2
    walk_at "go"
    intro l H3 nl g3 h3
    walk_at "go"
    intro J H4 nJ g4 h4
    walk_at "go"
    have gg : GrA H H4 := fun T => ((g1 T).trans (g2 T)).trans ((g3 T).trans (g4 T))
    refine q J l _ (ns.take 63) H4 gg (((g1 []).trans ((g2 []).trans (g3 []))).free _ nJ) h4 ⟨0, 0, 0, s, 0, rfl, by decide, s0, s1⟩ (sqL_of ((g4 []).lst h3)) (by rw [List.length_take]; omega) (ne_of_none h3 nJ)
def spBag (K : PySem.W.Frag) (T : List (Addr × Str)) : Sp := fun vs H Q _ => ∃ (a : Addr) (ns : List Int), vs = [.ref a] ∧ SqL K H a (ns.map .int) ∧ ∀ J H', Gr T H H' → Jar K H' J → Q (.ref J) H'
theorem sqL_upd {H : Hp} {c J : Addr} {u : HO} {xs : List V} (h : SqL K H c xs) (n : c ≠ J) : SqL K (upd H J u) c xs := by
  rcases h with (h | ⟨o, h⟩) | h
  · exact .inl (.inl (by rw [upd_ne n]; exact h))
  · exact .inl (.inr ⟨o, by rw [upd_ne n]; exact h⟩)
  · exact .inr h
theorem bag_up : ∀ vs H Q E, spBag K T vs H Q E → spBagL K vs H (fun v H' => ∃ J c jv, v = .ref J ∧ H J = none ∧ H' J = some (.lst jv) ∧ JarV c jv ∧ Q v (upd H' J (JarO J c))) fun _ _ _ => False := by
  intro vs H Q E h
  obtain ⟨a, ns, rfl, hs, q⟩ := h
  refine ⟨a, ns, rfl, hs, fun J c jv ms H' g nJ hJ gj hc hm nc => ⟨J, c, jv, rfl, nJ, hJ, gj, q J _ ⟨fun b o e n => ?_, fun b e => ?_, fun t => ?_⟩ ⟨c, ms, upd_same, sqL_upd hc nc, by omega⟩⟩⟩
  · rw [upd_ne (ne_of_none e nJ)]
    exact (g T).keep b o e n
  · by_cases z : b = J
    · rw [z]; exact nJ
    · rw [upd_ne z] at e
      exact (g T).free b e
  · intro p hp
    obtain ⟨ps, a1, a2, a3⟩ := (g T).tabs t p hp
    refine ⟨ps, ?_, a2, fun pos cv hcv => ?_⟩
    · rw [upd_ne (fun z => by rw [z, hJ] at a1; cases a1)]; exact a1
    · obtain ⟨c2, e1, e2⟩ := a3 pos cv hcv
      refine ⟨c2, e1, ?_⟩
      rw [upd_ne (fun z => by rw [z, hJ] at e2; unfold CodeO at e2; cases e2)]; exact e2
def spDrawL (K : PySem.W.Frag) : Sp := fun vs H Q _ => ∃ J top H0 c jv ns, vs = [.ref J, .int top] ∧ H = upd H0 J (.lst jv) ∧ JarV c jv ∧ (∀ u, SqL K (upd H0 J u) c (List.map V.int ns)) ∧ ns.length ≤ 1000 ∧ 0 < top ∧ top < 1073741824 ∧
  ∀ d jv', 0 ≤ d → d < top → JarV c jv' → Q (.int d) (upd H0 J (.lst jv'))
theorem w_setU {H0 : Hp} {J : Addr} {xs : List V} {k : Int} {v : V} {QH : Hp → Prop} (h0 : 0 ≤ k) (h1 : k < xs.length) (q : QH (upd H0 J (.lst (xs.set k.toNat v)))) : rSetL (.ref J) (.int k) v (upd H0 J (.lst xs)) QH := by
  refine w_set upd_same h0 h1 ?_
  rw [upd_upd]
  exact q
theorem w_ixU {H0 : Hp} {J : Addr} {xs : List V} {k : Int} {v : V} {Q : VK} (h0 : 0 ≤ k) (h1 : xs[k.toNat]? = some v) (q : Q v (upd H0 J (.lst xs))) : uIx K (.ref J) (.int k) (upd H0 J (.lst xs)) Q := w_ix (sqA_of upd_same) h0 h1 q
theorem rd_law_draw : ∀ vs H Q (E : XK), spDrawL K vs H Q E → t__law_draw K (E_ Q) (start ["jar", "top", "cell", "digit"] vs) H := by
  intro vs H Q E h
  obtain ⟨J, top, H0, c, jv, ns, rfl, rfl, gj, hc, hn, t0, t1, q⟩ := h
  obtain ⟨p, b, k, s, m, rfl, p0, s0, s1⟩ := gj.is
  unfold t__law_draw
  -- the end: a draw out of the stir
  have fin : ∀ (p b k s m : Int) (u v : Option V), 0 ≤ p → 0 ≤ s → s < 2147483579 → (tSeq (tIfS (tTest (tOp qGt (tOp (uIx K) (tVar 0) (tC (.int 3))) (tC (.int 0)))) (tSeq (tAsg (tOp qMod (tCB (uInt) (tCons (tOp (uIx K) (tVar 0) (tC (.int 2))) tNil)) (tVar 1)) (gName 3))
    (tSeq (tAsg (tOp qFdiv (tOp (uIx K) (tVar 0) (tC (.int 2))) (tVar 1)) (gSub (tVar 0) (tC (.int 2)) rSetL))
    (tSeq (tAsg (tIf (tTest (tOp qGt (tOp (uIx K) (tVar 0) (tC (.int 2))) (tC (.int 0)))) (tOp qSub (tOp (uIx K) (tVar 0) (tC (.int 3))) (tC (.int 1))) (tC (.int 0))) (gSub (tVar 0) (tC (.int 3)) rSetL))
    (tRet (tVar 3))))) tNext)
    (tSeq (tAsg (tOp qMod (tCB (uInt) (tCons (tOp (uAdd K) (tOp (uAdd K) (tOp qPow (tOp (uIx K) (tVar 0) (tC (.int 4))) (tC (.int 3))) (tOp uMul (tOp (uIx K) (tVar 0) (tC (.int 5))) (tC (.int 1299709)))) (tC (.int 104729))) tNil)) (tC (.int 2147483579))) (gSub (tVar 0) (tC (.int 4)) rSetL))
    (tRet (tOp qMod (tCB (uInt) (tCons (tOp (uAdd K) (tOp qFdiv (tOp (uIx K) (tVar 0) (tC (.int 4))) (tC (.int 61))) (tOp uMul (tOp qMod (tCB (uInt) (tCons (tOp (uIx K) (tVar 0) (tC (.int 4))) tNil)) (tC (.int 6007))) (tC (.int 71)))) tNil)) (tVar 1))))) (E_ Q) [some (.ref J), some (.int top), u, v] (upd H0 J (.lst [.ref c, .int p, .int b, .int k, .int s, .int m])) := by
    intro p b k s m u v p0 s0 s1
    walk_at "go"
    refine w_ixU (by decide) rfl ?_
    walk_at "go"
    refine w_dec (fun e => ?_) (fun e => ?_)
    · walk_at "go"
      refine w_ixU (by decide) rfl ?_
      walk_at "go"
      refine w_I t0 ?_
      walk_at "go"
      refine w_ixU (by decide) rfl ?_
      walk_at "go"
      refine w_I ⟨t0, t1⟩ ?_
      walk_at "go"
      refine w_setU (by decide) (by simp) ?_
      walk_at "go"
      refine w_ixU (by decide) rfl ?_
      walk_at "go"
      refine w_dec (fun e2 => ?_) (fun e2 => ?_)
      · walk_at "go"
        refine w_ixU (by decide) rfl ?_
        walk_at "go"
        refine w_setU (by decide) (by simp) ?_
        walk_at "go"
        exact q _ _ (Int.emod_nonneg _ (by omega)) (Int.emod_lt_of_pos _ t0) ⟨p, _, _, s, m, rfl, p0, s0, s1⟩
      · walk_at "go"
        refine w_setU (by decide) (by simp) ?_
        walk_at "go"
        exact q _ _ (Int.emod_nonneg _ (by omega)) (Int.emod_lt_of_pos _ t0) ⟨p, _, _, s, m, rfl, p0, s0, s1⟩
    · walk_at "go"
      refine w_ixU (by decide) rfl ?_
      walk_at "go"
      refine w_I ⟨by decide, by decide, by omega⟩ ?_
      walk_at "go"
      refine w_ixU (by decide) rfl ?_
      walk_at "go"
      refine w_mul (.inr ⟨by decide, by decide⟩) ?_
      walk_at "go"
      refine w_I (show (0 : Int) < 2147483579 by decide) ?_
      walk_at "go"
      refine w_setU (by decide) (by simp) ?_
      walk_at "go"
      refine w_ixU (by decide) rfl ?_
      walk_at "go"
      refine w_I ⟨by decide, by decide⟩ ?_
      walk_at "go"
      refine w_ixU (by decide) rfl ?_
      walk_at "go"
      refine w_I (show (0 : Int) < 6007 by decide) ?_
      walk_at "go"
      refine w_mul (.inr ⟨by decide, by decide⟩) ?_
      walk_at "go"
      refine w_I t0 ?_
      exact q _ _ (Int.emod_nonneg _ (by omega)) (Int.emod_lt_of_pos _ t0) ⟨p, b, k, _, m, rfl, p0, Int.emod_nonneg _ (by decide), Int.emod_lt_of_pos _ (by decide)⟩
  walk_at "s"
  walk_at "s"
  walk_at "go"
  refine w_ixU (by decide) rfl ?_
  walk_at "go"
  refine w_setU (by decide) (by simp) ?_
  walk_at "s"
  walk_at "s"
  walk_at "s"
  walk_at "go"
  refine w_ixU (by decide) rfl ?_
  walk_at "go"
  refine w_dec (fun e => ?_) (fun e => ?_)
  · walk_at "go"
    refine w_ixU (by decide) rfl ?_
    walk_at "go"
    refine w_ixU (by decide) rfl ?_
    walk_at "go"
    refine w_lenI (.inl (hc _)) ?_
    walk_at "go"
    refine w_dec (fun e2 => ?_) (fun e2 => ?_)
    · walk_at "go"
      refine w_ixU (by decide) rfl ?_
      walk_at "go"
      refine w_ixU (by decide) rfl ?_
      walk_at "go"
      refine w_ixZ (.inl (hc _)) p0 e2 ?_
      walk_at "go"
      refine w_ixU (by decide) rfl ?_
      walk_at "go"
      refine w_setU (by decide) (by simp) ?_
      walk_at "go"
      refine w_I ⟨by decide, by decide, by decide⟩ ?_
      walk_at "go"
      refine w_dec (fun e3 => ?_) (fun e3 => ?_)
      · walk_at "go"
        refine w_setU (by decide) (by simp) ?_
        walk_at "go"
        refine w_setU (by decide) (by simp) ?_
        exact fin _ _ _ _ _ _ _ (by omega) s0 s1
      · walk_at "go"
        refine w_ixU (by decide) rfl ?_
        walk_at "go"
        refine w_mul (.inr ⟨by decide, by decide⟩) ?_
        walk_at "go"
        refine w_I (show (0 : Int) < 2147483549 by decide) ?_
        walk_at "go"
        refine w_mul (.inr ⟨by decide, by decide⟩) ?_
        walk_at "go"
        refine w_I (show (0 : Int) < 2147483579 by decide) ?_
        walk_at "go"
        refine w_setU (by decide) (by simp) ?_
        exact fin _ _ _ _ _ _ _ (by omega) (Int.emod_nonneg _ (by decide)) (Int.emod_lt_of_pos _ (by decide))
    · exact fin _ _ _ _ _ _ _ p0 s0 s1
  · exact fin _ _ _ _ _ _ _ p0 s0 s1
def spDraw (K : PySem.W.Frag) : Sp := fun vs H Q _ => ∃ J top, vs = [.ref J, .int top] ∧ Jar K H J ∧ 0 < top ∧ top < 1073741824 ∧ ∀ d, 0 ≤ d → d < top → Q (.int d) H
theorem draw_up : ∀ vs H Q E, spDraw K vs H Q E → ∃ J c, H J = some (JarO J c) ∧ ∀ jv, JarV c jv → spDrawL K vs (upd H J (.lst jv)) (fun v H' => ∃ jv', H' J = some (.lst jv') ∧ JarV c jv' ∧ Q v (upd H' J (JarO J c))) fun _ _ _ => False := by
  intro vs H Q E h
  obtain ⟨J, top, rfl, ⟨c, ns, hJ, hc, hn⟩, t0, t1, q⟩ := h
  have nc : c ≠ J ∨ ∀ u, SqL K (upd H J u) c (ns.map V.int) := by
    by_cases z : c = J
    · right
      subst z
      rcases hc with (h | ⟨o, h⟩) | h
      · rw [hJ] at h
        have h' := Option.some.inj h
        unfold JarO at h'
        cases h'
      · rw [hJ] at h
        have h' := Option.some.inj h
        unfold JarO at h'
        cases h'
      · exact fun u => .inr h
    · exact .inl z
  refine ⟨J, c, hJ, fun jv gj => ⟨J, top, H, c, jv, ns, rfl, rfl, gj, fun u => nc.elim (fun z => sqL_upd hc z) fun z => z u, hn, t0, t1, fun d jv' d0 d1 gj' => ⟨jv', upd_same, gj', ?_⟩⟩⟩
  have e : upd (upd H J (.lst jv')) J (JarO J c) = H := by
    rw [upd_upd]
    funext b
    by_cases z : b = J
    · rw [z, upd_same, hJ]
    · rw [upd_ne z]
  rw [e]
  exact q d d0 d1
end K20
end
section
set_option Elab.async false
set_option linter.all false
set_option maxRecDepth 100000
set_option maxHeartbeats 4000000
namespace K20
open PySem PySem.Spec PyProof.Rows L2 LamX U Evl
/-! ### steps, by program -/
local macro_rules | `(tactic| walk_at "kp") => `(tactic| first
  | assumption
  | exact sqA_of (by assumption)
  | exact sqB_of (by assumption)
  | exact sqL_of (by assumption)
  | exact sqT_of (by assumption)
  | exact Or.inl (by assumption)
  | exact Or.inr (by assumption)
  | exact Gr.refl _ _
  | exact GrA.gr (by assumption)
  | (apply Gr.trans ?_ (by first | assumption | exact GrA.gr (by assumption)); walk_at "kp")
  | (apply Gr.sq; (first | assumption | exact GrA.gr (T := []) (by assumption)); walk_at "kp")
  | (apply Gr.sqL; (first | assumption | exact GrA.gr (T := []) (by assumption)); walk_at "kp")
  | (apply Gr.sqT; (first | assumption | exact GrA.gr (T := []) (by assumption)); walk_at "kp")
  | (apply Gr.lst; (first | assumption | exact GrA.gr (T := []) (by assumption)); walk_at "kp")
  | (apply Gr.tup; (first | assumption | exact GrA.gr (T := []) (by assumption)); walk_at "kp"))
local macro_rules | `(tactic| walk_at "s") => `(tactic| first
  | with_reducible first
    | refine w_seq ?_ | refine w_asg ?_ | refine w_gname ?_ | refine w_if ?_ | refine w_ret ?_ | refine w_next ?_ | refine w_drop ?_ | refine w_retN ?_ | refine w_brk ?_ | refine w_cont ?_ | refine w_gsub ?_
    | refine w_op ?_ | refine w_c ?_ | refine w_nil ?_ | refine w_cons ?_ | refine w_cb ?_ | refine w_un ?_
    | refine w_I0 ?_ | refine w_U ?_ | refine w_add ?_ | refine w_test ?_ | refine w_tB ?_ | refine w_tr ?_ | refine w_exn ?_ | refine w_trn ?_ | refine w_and ?_ | refine w_or ?_ | refine w_not ?_ | refine w_andV ?_ | refine w_orV ?_ | refine w_notV ?_ | refine w_ifE ?_
    | refine w_eqI ?_ | refine w_neI ?_ | refine w_eqS ?_ | refine w_neS ?_ | refine w_eqB ?_ | refine w_neB ?_ | refine w_isNo ?_ | refine w_notN ?_
    | refine w_call0 ?_ | refine w_tupK ?_ | refine w_lstK ?_ | refine w_bm ?_ | refine w_nop ?_ | refine w_part ?_ | refine w_exi ?_ | refine w_sl ?_
    | refine w_lcS ?_ | refine w_lcR1 ?_ | refine w_lcR2 ?_ | refine w_lcE ?_ | refine w_frS ?_ | refine w_frR1 ?_ | refine w_frR2 ?_ | refine w_frE ?_ | refine w_frT ?_
    | refine w_tYes ?_ | refine w_iteD ?_ | refine w_iteND ?_ | refine w_raise ?_ | refine raK1 ?_ | refine raK2 ?_ | refine w_iteNT ?_ | refine w_iteNF ?_ | refine w_ckw ?_ | refine w_callN ?_ | refine w_m1 ?_ | refine w_yes1 ?_ | refine w_iteT ?_ | refine w_iteF ?_ | refine w_abs ?_ | refine w_max2 ?_ | refine w_max3 ?_ | refine w_min2 ?_ | refine w_intI ?_
  | (refine w_var (by with_unfolding_all rfl) ?_)
  | (refine w_lenI (by walk_at "kp") ?_)
  | (refine w_len (by walk_at "kp") ?_)
  | (refine w_sum (by walk_at "kp") ?_)
  | (with_reducible refine lstK ?_ ?_; exact Nat.le_of_ble_eq_true rfl)
  | (with_reducible refine tupK ?_ ?_; exact Nat.le_of_ble_eq_true rfl)
  | (refine w_list (by walk_at "kp") ?_)
  | (refine w_tuple (by walk_at "kp") ?_)
  | (refine w_slI (by walk_at "kp") ?_)
  | (refine w_inI (by walk_at "kp") ?_)
  | (refine w_notInI (by walk_at "kp") ?_))
local macro_rules | `(tactic| walk_at "go") => `(tactic| repeat' (walk_at "s"))
variable {K : PySem.W.Frag} {T : List (Addr × Str)}
def spPick (K : PySem.W.Frag) : Sp := fun vs H Q _ => ∃ J m xs, vs = [.ref J, .ref m] ∧ Jar K H J ∧ Sq K H m xs ∧ 0 < xs.length ∧ xs.length ≤ 100000 ∧ ∀ x ∈ xs, Q x H
theorem rd_law_pick : ∀ vs H Q (E : XK), spPick K vs H Q E → t__law_pick K (spDraw K) (E_ Q) (start ["jar", "menu"] vs) H := by
  intro vs H Q E h
  obtain ⟨J, m, xs, rfl, hj, hs, h0, h1, q⟩ := h
  unfold t__law_pick
  walk_at "go"
  refine ⟨J, _, rfl, hj, by omega, by omega, fun d d0 d1 => ?_⟩
  have hl : d.toNat < xs.length := by omega
  exact w_ix hs d0 (List.getElem?_eq_getElem hl) (q _ (List.getElem_mem hl))
def spReach (K : PySem.W.Frag) : Sp := fun vs H Q _ => ∃ J lo hi, vs = [.ref J, .int lo, .int hi] ∧ Jar K H J ∧ lo ≤ hi ∧ hi - lo < 1000000 ∧ ∀ d, lo ≤ d → d ≤ hi → Q (.int d) H
theorem rd_law_reach : ∀ vs H Q (E : XK), spReach K vs H Q E → t__law_reach K (spDraw K) (E_ Q) (start ["jar", "least", "most"] vs) H := by
  intro vs H Q E h
  obtain ⟨J, lo, hi, rfl, hj, h0, h1, q⟩ := h
  unfold t__law_reach
  walk_at "go"
  refine ⟨J, _, rfl, hj, by omega, by omega, fun d d0 d1 => ?_⟩
  walk_at "go"
  exact q _ (by omega) (by omega)
/-! ### like -/
theorem dp_kd {H : Hp} {v : V} {d : PyData} (h : Dp K H v d) : Kd K H v := by
  cases h with
  | non => exact .non
  | bl b => exact .bl b
  | int i => exact .int i
  | str s => exact .str s
  | lst h _ => exact .lst h
  | tup h _ => exact .tup h
theorem dpAll_get {H : Hp} : ∀ {xs : List V} {ds : List PyData} {i : Nat} {x : V}, DpAll K H xs ds → xs[i]? = some x → ∃ d, ds[i]? = some d ∧ Dp K H x d
  | _, _, _, _, .nil, e => by simp at e
  | _, _, 0, _, .cons r _, e => by
    simp at e
    subst e
    exact ⟨_, rfl, r⟩
  | _, _, i + 1, x, .cons _ t, e => by
    obtain ⟨q, h1, h2⟩ := dpAll_get (i := i) (x := x) t (by simpa using e)
    exact ⟨q, by simpa using h1, h2⟩
theorem dpAll_len {H : Hp} : ∀ {xs : List V} {ds : List PyData}, DpAll K H xs ds → xs.length = ds.length
  | _, _, .nil => rfl
  | _, _, .cons _ t => congrArg Nat.succ (dpAll_len t)
/-- how deep lists and tuples stand in one another -/
inductive Flat : Nat → PyData → Prop
  | non {n : Nat} : Flat n .none
  | bl {n : Nat} (b : Bool) : Flat n (.bool b)
  | int {n : Nat} (i : Int) : Flat n (.int i)
  | str {n : Nat} (s : Str) : Flat n (.str s)
  | lst {n : Nat} {ds : List PyData} (h : ∀ d ∈ ds, Flat n d) : Flat (n + 1) (.list ds)
  | tup {n : Nat} {ds : List PyData} (h : ∀ d ∈ ds, Flat n d) : Flat (n + 1) (.tuple ds)
def spLike (K : PySem.W.Frag) (T : List (Addr × Str)) (n : Nat) : Sp := fun vs H Q _ => ∃ v u d, vs = [v, u] ∧ Flat n d ∧ Dp K H v d ∧ Dp K H u d ∧ (∀ xs a, u = .ref a → Sq K H a xs → xs.length ≤ 10000) ∧ ∀ H', Gr T H H' → Q (.bl true) H'
/-- the same, with all lengths bounded -/
inductive Short : PyData → Prop
  | non : Short .none
  | bl (b : Bool) : Short (.bool b)
  | int (i : Int) : Short (.int i)
  | str (s : Str) : Short (.str s)
  | lst {ds : List PyData} (hl : ds.length ≤ 10000) (h : ∀ d ∈ ds, Short d) : Short (.list ds)
  | tup {ds : List PyData} (hl : ds.length ≤ 10000) (h : ∀ d ∈ ds, Short d) : Short (.tuple ds)
def spLikeN (K : PySem.W.Frag) (T : List (Addr × Str)) : Nat → Sp
  | 0 => fun _ _ _ _ => False
  | n + 1 => fun vs H Q _ => ∃ v u d, vs = [v, u] ∧ Flat n d ∧ Short d ∧ Dp K H v d ∧ Dp K H u d ∧ ∀ H', Gr T H H' → Q (.bl true) H'
theorem w_isNb {x : V} {H : Hp} {Q : VK} (q : Q (.bl (decide (x = .non))) H) : rIsN x .non H Q := ⟨rfl, q⟩
theorem rd_law_like (n : Nat) : ∀ vs H Q (E : XK), spLikeN K T (n + 1) vs H Q E → t__law_like K (spIsWhole K) (spLikeN K T n) (E_ Q) (start ["told", "due", "i"] vs) H := by
  intro vs H Q E h
  obtain ⟨v, u, d, rfl, hf, hsh, hv, hu, q⟩ := h
  unfold t__law_like
  have q0 := q H (Gr.refl _ _)
  walk_at "go"
  cases hu with
  | non =>
    cases hv
    refine isi_bool .non ?_
    walk_at "go"
    refine isi_str .non ?_
    walk_at "go"
    refine isi_int .non ?_
    walk_at "go"
    refine w_isi tyx_non (b := false) (by decide +kernel) ?_
    walk_at "go"
    refine w_isi tyx_non (b := false) (by decide +kernel) ?_
    walk_at "go"
    exact q0
  | bl b =>
    cases hv
    refine isi_bool (.bl b) ?_
    walk_at "go"
    refine isi_bool (.bl b) ?_
    walk_at "go"
    refine isi_bool (.bl b) ?_
    walk_at "go"
    refine isi_str (.bl b) ?_
    walk_at "go"
    refine isi_str (.bl b) ?_
    walk_at "go"
    rw [decide_eq_true rfl]
    exact q0
  | str s =>
    cases hv
    refine isi_bool (.str s) ?_
    walk_at "go"
    refine isi_str (.str s) ?_
    walk_at "go"
    refine isi_bool (.str s) ?_
    walk_at "go"
    refine isi_bool (.str s) ?_
    walk_at "go"
    refine isi_str (.str s) ?_
    walk_at "go"
    refine isi_str (.str s) ?_
    walk_at "go"
    rw [decide_eq_true rfl]
    exact q0
  | int i =>
    cases hv
    refine isi_bool (.int i) ?_
    walk_at "go"
    refine isi_str (.int i) ?_
    walk_at "go"
    refine isi_int (.int i) ?_
    walk_at "go"
    refine ⟨_, rfl, .int i, ?_⟩
    dsimp only [U.isInt]
    walk_at "go"
    rw [decide_eq_true rfl]
    exact q0
  | lst hs ha =>
    rename_i a xs ds
    cases hv with
    | lst hs2 ha2 =>
      rename_i b ys
      cases hf with
      | lst hf =>
        cases hsh with
        | lst hl hsh =>
          rename_i m
          have l1 := dpAll_len ha
          have l2 := dpAll_len ha2
          refine isi_L hs (b := false) (by decide +kernel) ?_
          walk_at "go"
          refine isi_L hs (b := false) (by decide +kernel) ?_
          walk_at "go"
          refine isi_L hs (b := false) (by decide +kernel) ?_
          walk_at "go"
          refine isi_L hs (b := true) (by decide +kernel) ?_
          walk_at "go"
          refine isi_L hs2 (b := true) (by decide +kernel) ?_
          walk_at "go"
          refine isi_L hs (b := true) (by decide +kernel) ?_
          walk_at "go"
          refine isi_L hs2 (b := false) (by decide +kernel) ?_
          walk_at "go"
          refine isi_L hs (b := false) (by decide +kernel) ?_
          walk_at "go"
          rw [l1, l2]
          walk_at "go"
          refine lc_R1 (T := T) (fun _ => false) V.int (by omega) (by omega) (fun _ => rfl) (fun k k0 k1 H2 g2 Yes No hy hn => ?_) (fun D H3 g3 nD h3 => ?_)
          · walk_at "go"
            have i1 : k.toNat < xs.length := by omega
            have i2 : k.toNat < ys.length := by omega
            have e1 := List.getElem?_eq_getElem i1
            have e2 := List.getElem?_eq_getElem i2
            refine w_ix (.inl (g2.sqL hs2)) k0 e2 ?_
            walk_at "go"
            refine w_ix (.inl (g2.sqL hs)) k0 e1 ?_
            walk_at "go"
            obtain ⟨d1, f1, x1⟩ := dpAll_get ha e1
            obtain ⟨d2, f2, x2⟩ := dpAll_get ha2 e2
            rw [f1] at f2
            cases f2
            have hm := List.mem_of_getElem? f1
            refine ⟨_, _, d1, rfl, hf d1 hm, hsh d1 hm, g2.dp x2, g2.dp x1, fun H4 g4 => ?_⟩
            walk_at "go"
            exact hn rfl H4 g4
          · have e3 : H3 D = some (.lst []) := by
              rw [h3, List.filter_eq_nil_iff.mpr (fun _ _ => by decide)]
              rfl
            have e4 : Sq K H3 D (([] : List Int).map V.int) := sqA_of e3
            walk_at "go"
            exact q H3 g3
  | tup hs ha =>
    rename_i a xs ds
    cases hv with
    | tup hs2 ha2 =>
      rename_i b ys
      cases hf with
      | tup hf =>
        cases hsh with
        | tup hl hsh =>
          rename_i m
          have l1 := dpAll_len ha
          have l2 := dpAll_len ha2
          refine isi_T hs (b := false) (by decide +kernel) ?_
          walk_at "go"
          refine isi_T hs (b := false) (by decide +kernel) ?_
          walk_at "go"
          refine isi_T hs (b := false) (by decide +kernel) ?_
          walk_at "go"
          refine isi_T hs (b := false) (by decide +kernel) ?_
          walk_at "go"
          refine isi_T hs (b := true) (by decide +kernel) ?_
          walk_at "go"
          refine isi_T hs2 (b := false) (by decide +kernel) ?_
          walk_at "go"
          refine isi_T hs (b := false) (by decide +kernel) ?_
          walk_at "go"
          refine isi_T hs2 (b := true) (by decide +kernel) ?_
          walk_at "go"
          refine isi_T hs (b := true) (by decide +kernel) ?_
          walk_at "go"
          rw [l1, l2]
          walk_at "go"
          refine lc_R1 (T := T) (fun _ => false) V.int (by omega) (by omega) (fun _ => rfl) (fun k k0 k1 H2 g2 Yes No hy hn => ?_) (fun D H3 g3 nD h3 => ?_)
          · walk_at "go"
            have i1 : k.toNat < xs.length := by omega
            have i2 : k.toNat < ys.length := by omega
            have e1 := List.getElem?_eq_getElem i1
            have e2 := List.getElem?_eq_getElem i2
            refine w_ix (.inr (g2.sqT hs2)) k0 e2 ?_
            walk_at "go"
            refine w_ix (.inr (g2.sqT hs)) k0 e1 ?_
            walk_at "go"
            obtain ⟨d1, f1, x1⟩ := dpAll_get ha e1
            obtain ⟨d2, f2, x2⟩ := dpAll_get ha2 e2
            rw [f1] at f2
            cases f2
            have hm := List.mem_of_getElem? f1
            refine ⟨_, _, d1, rfl, hf d1 hm, hsh d1 hm, g2.dp x2, g2.dp x1, fun H4 g4 => ?_⟩
            walk_at "go"
            exact hn rfl H4 g4
          · have e3 : H3 D = some (.lst []) := by
              rw [h3, List.filter_eq_nil_iff.mpr (fun _ _ => by decide)]
              rfl
            have e4 : Sq K H3 D (([] : List Int).map V.int) := sqA_of e3
            walk_at "go"
            exact q H3 g3
end K20
end
section
set_option Elab.async false
set_option linter.all false
set_option maxRecDepth 100000
set_option maxHeartbeats 4000000
namespace K20
open PySem PySem.Spec PyProof.Rows L2 LamX U Evl
/-! ### steps, by program -/
local macro_rules | `(tactic| walk_at "kp") => `(tactic| first
  | assumption
  | exact sqA_of (by assumption)
  | exact sqB_of (by assumption)
  | exact sqL_of (by assumption)
  | exact sqT_of (by assumption)
  | exact Or.inl (by assumption)
  | exact Or.inr (by assumption)
  | exact Gr.refl _ _
  | exact GrA.gr (by assumption)
  | (apply Gr.trans ?_ (by first | assumption | exact GrA.gr (by assumption)); walk_at "kp")
  | (apply Gr.sq; (first | assumption | exact GrA.gr (T := []) (by assumption)); walk_at "kp")
  | (apply Gr.sqL; (first | assumption | exact GrA.gr (T := []) (by assumption)); walk_at "kp")
  | (apply Gr.sqT; (first | assumption | exact GrA.gr (T := []) (by assumption)); walk_at "kp")
  | (apply Gr.lst; (first | assumption | exact GrA.gr (T := []) (by assumption)); walk_at "kp")
  | (apply Gr.tup; (first | assumption | exact GrA.gr (T := []) (by assumption)); walk_at "kp"))
local macro_rules | `(tactic| walk_at "s") => `(tactic| first
  | with_reducible first
    | refine w_seq ?_ | refine w_asg ?_ | refine w_gname ?_ | refine w_if ?_ | refine w_ret ?_ | refine w_next ?_ | refine w_drop ?_ | refine w_retN ?_ | refine w_brk ?_ | refine w_cont ?_ | refine w_gsub ?_
    | refine w_op ?_ | refine w_c ?_ | refine w_nil ?_ | refine w_cons ?_ | refine w_cb ?_ | refine w_un ?_
    | refine w_I0 ?_ | refine w_U ?_ | refine w_add ?_ | refine w_test ?_ | refine w_tB ?_ | refine w_tr ?_ | refine w_exn ?_ | refine w_trn ?_ | refine w_and ?_ | refine w_or ?_ | refine w_not ?_ | refine w_andV ?_ | refine w_orV ?_ | refine w_notV ?_ | refine w_ifE ?_
    | refine w_eqI ?_ | refine w_neI ?_ | refine w_eqS ?_ | refine w_neS ?_ | refine w_eqB ?_ | refine w_neB ?_ | refine w_isNo ?_ | refine w_notN ?_
    | refine w_call0 ?_ | refine w_tupK ?_ | refine w_lstK ?_ | refine w_bm ?_ | refine w_nop ?_ | refine w_part ?_ | refine w_exi ?_ | refine w_sl ?_
    | refine w_lcS ?_ | refine w_lcR1 ?_ | refine w_lcR2 ?_ | refine w_lcE ?_ | refine w_frS ?_ | refine w_frR1 ?_ | refine w_frR2 ?_ | refine w_frE ?_ | refine w_frT ?_
    | refine w_tYes ?_ | refine w_iteD ?_ | refine w_iteND ?_ | refine w_raise ?_ | refine raK1 ?_ | refine raK2 ?_ | refine w_iteNT ?_ | refine w_iteNF ?_ | refine w_ckw ?_ | refine w_callN ?_ | refine w_m1 ?_ | refine w_yes1 ?_ | refine w_iteT ?_ | refine w_iteF ?_ | refine w_abs ?_ | refine w_max2 ?_ | refine w_max3 ?_ | refine w_min2 ?_ | refine w_intI ?_
  | (refine w_var (by with_unfolding_all rfl) ?_)
  | (refine w_lenI (by walk_at "kp") ?_)
  | (refine w_len (by walk_at "kp") ?_)
  | (refine w_sum (by walk_at "kp") ?_)
  | (with_reducible refine lstK ?_ ?_; exact Nat.le_of_ble_eq_true rfl)
  | (with_reducible refine tupK ?_ ?_; exact Nat.le_of_ble_eq_true rfl)
  | (refine w_list (by walk_at "kp") ?_)
  | (refine w_tuple (by walk_at "kp") ?_)
  | (refine w_slI (by walk_at "kp") ?_)
  | (refine w_inI (by walk_at "kp") ?_)
  | (refine w_notInI (by walk_at "kp") ?_))
local macro_rules | `(tactic| walk_at "go") => `(tactic| repeat' (walk_at "s"))
variable {K : PySem.W.Frag} {T : List (Addr × Str)}
/-- a partition with at most 1000 rows, none above 1000 -/
structure Shp (lam : List Int) : Prop where
  len : lam.length ≤ 1000
  pos : ∀ x ∈ lam, 1 ≤ x
  top : ∀ x ∈ lam, x ≤ 1000
def lawCleaned (rows : List Int) : List Int := rows.filter fun r => decide (0 < r)
def spCleaned (K : PySem.W.Frag) (T : List (Addr × Str)) : Sp := fun vs H Q _ => ∃ (a : Addr) (rows : List Int), vs = [.ref a] ∧ Sq K H a (rows.map .int) ∧ rows.length ≤ 10000 ∧ ∀ l H', Gr T H H' → SqT K H' l ((lawCleaned rows).map .int) → Q (.ref l) H'
theorem rd_law_cleaned : ∀ vs H Q (E : XK), spCleaned K T vs H Q E → t__law_cleaned K (E_ Q) (start ["rows", "row"] vs) H := by
  intro vs H Q E h
  obtain ⟨a, rows, rfl, hs, hl, q⟩ := h
  unfold t__law_cleaned
  walk_at "go"
  refine lc_I (T := T) hs (fun n => decide (0 < n)) V.int (by omega) (fun _ => rfl) (fun n hn H5 g5 Yes No hy hno => ?_) (fun D H1 g1 nD h1 => ?_)
  · walk_at "go"
    refine w_bool (fun e => ?_) (fun e => ?_)
    · walk_at "go"
      exact hy e _ (Gr.refl _ _)
    · exact hno e _ (Gr.refl _ _)
  · walk_at "go"
    intro l H2 g2 h2
    exact q l H2 (by walk_at "kp") h2
def lawIsGap (lam : List Int) (n : Int) : Bool := decide (n < -(lam.length : Int)) || decide (n ∈ (rgI 0 lam.length).map fun i => lam.getD i.toNat 0 - 1 - i)
def spIsGap (K : PySem.W.Frag) (T : List (Addr × Str)) : Sp := fun vs H Q _ => ∃ (a : Addr) (lam : List Int) (n : Int), vs = [.ref a, .int n] ∧ Sq K H a (lam.map .int) ∧ lam.length ≤ 1000 ∧ ∀ H', Gr T H H' → Q (.bl (lawIsGap lam n)) H'
theorem rd_law_is_gap : ∀ vs H Q (E : XK), spIsGap K T vs H Q E → t__law_is_gap K (E_ Q) (start ["lam", "n", "i"] vs) H := by
  intro vs H Q E h
  obtain ⟨a, lam, n, rfl, hs, hl, q⟩ := h
  unfold t__law_is_gap
  walk_at "go"
  have e0 : (0 : Int) - (lam.length : Int) = -(lam.length : Int) := by omega
  rw [e0]
  refine w_bool (fun e => ?_) (fun e => ?_)
  · have := q H (Gr.refl _ _)
    unfold lawIsGap at this
    rw [e] at this
    exact this
  · walk_at "go"
    refine lc_R1 (T := T) (fun _ => true) (fun i => .int (lam.getD i.toNat 0 - 1 - i)) (by omega) (by omega) (fun _ => rfl) (fun k k0 k1 H2 g2 Yes No hy hn => ?_) (fun D H1 g1 nD h1 => ?_)
    · walk_at "go"
      refine w_ixZ (g2.sq hs) k0 k1 ?_
      walk_at "go"
      exact hy rfl _ (Gr.refl _ _)
    · have h2 : H1 D = some (.lst (((rgI 0 lam.length).map fun i => lam.getD i.toNat 0 - 1 - i).map V.int)) := by
        rw [h1, List.filter_eq_self.mpr (fun _ _ => rfl), List.map_map] <;> rfl
      walk_at "go"
      have := q H1 g1
      unfold lawIsGap at this
      rw [e] at this
      exact this
/-- how many rows are longer than j -/
def colAt (lam : List Int) (j : Int) : Int := ((lam.filter fun r => decide (j < r)).length : Int)
def lawColumns (lam : List Int) : List Int := (rgI 0 (lam.headD 0)).map (colAt lam)
def spColumns (K : PySem.W.Frag) (T : List (Addr × Str)) : Sp := fun vs H Q _ => ∃ (a : Addr) (lam : List Int), vs = [.ref a] ∧ Sq K H a (lam.map .int) ∧ lam.length ≤ 1000 ∧ (∀ x ∈ lam, -1000 ≤ x ∧ x ≤ 1000) ∧ ∀ l H', Gr T H H' → SqT K H' l ((lawColumns lam).map .int) → Q (.ref l) H'
theorem rd_law_columns : ∀ vs H Q (E : XK), spColumns K T vs H Q E → t__law_columns K (E_ Q) (start ["lam", "j", "row"] vs) H := by
  intro vs H Q E h
  obtain ⟨a, lam, rfl, hs, hl, ht, q⟩ := h
  unfold t__law_columns
  walk_at "go"
  have fin : ∀ (m : Int) (Q' : VK), m = lam.headD 0 → (∀ D H1, Gr T H H1 → H1 D = some (.lst ((lawColumns lam).map V.int)) → Q' (.ref D) H1) → LcR1 (gName 1) tYes (tCB (uLen K) (tCons (tLc (iSeq K (tVar 0)) (gName 2) (tTest (tOp qGt (tVar 2) (tVar 1))) (tVar 2) [2]) tNil)) [1] (start ["lam", "j", "row"] [.ref a]) Q' [.int m] H := by
    intro m Q' em q'
    have hm : -1000 ≤ m ∧ m ≤ 1000 := by
      cases lam with
      | nil => rw [em]; decide
      | cons x r => rw [em]; exact ht x (List.mem_cons_self ..)
    refine lc_R1 (T := T) (fun _ => true) (fun j => .int (colAt lam j)) (by omega) (by omega) (fun _ => rfl) (fun k k0 k1 H2 g2 Yes No hy hn => ?_) (fun D H1 g1 nD h1 => ?_)
    · walk_at "go"
      refine lc_I (T := T) (g2.sq hs) (fun n => decide (k < n)) V.int (by omega) (fun _ => rfl) (fun n hn H5 g5 Yes No hy hno => ?_) (fun D H1 g1 nD h1 => ?_)
      · walk_at "go"
        refine w_bool (fun e => ?_) (fun e => ?_)
        · walk_at "go"
          exact hy e _ (Gr.refl _ _)
        · exact hno e _ (Gr.refl _ _)
      · walk_at "go"
        exact hy rfl _ (by walk_at "kp")
    · refine q' D H1 g1 ?_
      rw [h1, List.filter_eq_self.mpr (fun _ _ => rfl)]
      unfold lawColumns
      rw [List.map_map, em] <;> rfl
  refine w_dec (fun e => ?_) (fun e => ?_)
  · walk_at "go"
    refine w_ixZ hs (by decide) e ?_
    walk_at "go"
    refine fin _ _ ?_ fun D H1 g1 h2 => ?_
    · cases lam <;> rfl
    · walk_at "go"
      intro l H3 g3 h3
      exact q l H3 (by walk_at "kp") h3
  · walk_at "go"
    have : lam = [] := List.eq_nil_of_length_eq_zero (by omega)
    refine fin _ _ (by rw [this] <;> rfl) fun D H1 g1 h2 => ?_
    walk_at "go"
    intro l H3 g3 h3
    exact q l H3 (by walk_at "kp") h3
end K20
end
section
set_option Elab.async false
set_option linter.all false
set_option maxRecDepth 100000
set_option maxHeartbeats 4000000
namespace K20
open PySem PySem.Spec PyProof.Rows L2 LamX U Evl
/-! ### steps, by program -/
local macro_rules | `(tactic| walk_at "kp") => `(tactic| first
  | assumption
  | exact sqA_of (by assumption)
  | exact sqB_of (by assumption)
  | exact sqL_of (by assumption)
  | exact sqT_of (by assumption)
  | exact Or.inl (by assumption)
  | exact Or.inr (by assumption)
  | exact Gr.refl _ _
  | exact GrA.gr (by assumption)
  | (apply Gr.trans ?_ (by first | assumption | exact GrA.gr (by assumption)); walk_at "kp")
  | (apply Gr.sq; (first | assumption | exact GrA.gr (T := []) (by assumption)); walk_at "kp")
  | (apply Gr.sqL; (first | assumption | exact GrA.gr (T := []) (by assumption)); walk_at "kp")
  | (apply Gr.sqT; (first | assumption | exact GrA.gr (T := []) (by assumption)); walk_at "kp")
  | (apply Gr.lst; (first | assumption | exact GrA.gr (T := []) (by assumption)); walk_at "kp")
  | (apply Gr.tup; (first | assumption | exact GrA.gr (T := []) (by assumption)); walk_at "kp"))
local macro_rules | `(tactic| walk_at "s") => `(tactic| first
  | with_reducible first
    | refine w_seq ?_ | refine w_asg ?_ | refine w_gname ?_ | refine w_if ?_ | refine w_ret ?_ | refine w_next ?_ | refine w_drop ?_ | refine w_retN ?_ | refine w_brk ?_ | refine w_cont ?_ | refine w_gsub ?_
    | refine w_op ?_ | refine w_c ?_ | refine w_nil ?_ | refine w_cons ?_ | refine w_cb ?_ | refine w_un ?_
    | refine w_I0 ?_ | refine w_U ?_ | refine w_add ?_ | refine w_test ?_ | refine w_tB ?_ | refine w_tr ?_ | refine w_exn ?_ | refine w_trn ?_ | refine w_and ?_ | refine w_or ?_ | refine w_not ?_ | refine w_andV ?_ | refine w_orV ?_ | refine w_notV ?_ | refine w_ifE ?_
    | refine w_eqI ?_ | refine w_neI ?_ | refine w_eqS ?_ | refine w_neS ?_ | refine w_eqB ?_ | refine w_neB ?_ | refine w_isNo ?_ | refine w_notN ?_
    | refine w_call0 ?_ | refine w_tupK ?_ | refine w_lstK ?_ | refine w_bm ?_ | refine w_nop ?_ | refine w_part ?_ | refine w_exi ?_ | refine w_sl ?_
    | refine w_lcS ?_ | refine w_lcR1 ?_ | refine w_lcR2 ?_ | refine w_lcE ?_ | refine w_frS ?_ | refine w_frR1 ?_ | refine w_frR2 ?_ | refine w_frE ?_ | refine w_frT ?_
    | refine w_tYes ?_ | refine w_iteD ?_ | refine w_iteND ?_ | refine w_raise ?_ | refine raK1 ?_ | refine raK2 ?_ | refine w_iteNT ?_ | refine w_iteNF ?_ | refine w_ckw ?_ | refine w_callN ?_ | refine w_m1 ?_ | refine w_yes1 ?_ | refine w_iteT ?_ | refine w_iteF ?_ | refine w_abs ?_ | refine w_max2 ?_ | refine w_max3 ?_ | refine w_min2 ?_ | refine w_intI ?_
  | (refine w_var (by with_unfolding_all rfl) ?_)
  | (refine w_lenI (by walk_at "kp") ?_)
  | (refine w_len (by walk_at "kp") ?_)
  | (refine w_sum (by walk_at "kp") ?_)
  | (with_reducible refine lstK ?_ ?_; exact Nat.le_of_ble_eq_true rfl)
  | (with_reducible refine tupK ?_ ?_; exact Nat.le_of_ble_eq_true rfl)
  | (refine w_list (by walk_at "kp") ?_)
  | (refine w_tuple (by walk_at "kp") ?_)
  | (refine w_slI (by walk_at "kp") ?_)
  | (refine w_inI (by walk_at "kp") ?_)
  | (refine w_notInI (by walk_at "kp") ?_))
local macro_rules | `(tactic| walk_at "go") => `(tactic| repeat' (walk_at "s"))
variable {K : PySem.W.Frag} {T : List (Addr × Str)}
theorem prAll_app {H : Hp} : ∀ {xs : List V} {qs : List (Int × Int)} {x : V} {q : Int × Int}, PrAll K H xs qs → IsPr K H x q → PrAll K H (xs ++ [x]) (qs ++ [q])
  | _, _, _, _, .nil, h => .cons h .nil
  | _, _, _, _, .cons a b, h => .cons a (prAll_app b h)
theorem sqT_updL {H : Hp} {p M : Addr} {ys xs zs : List V} (h : SqT K H p ys) (hM : H M = some (.lst xs)) : SqT K (upd H M (.lst zs)) p ys := by
  rcases h with (h | ⟨o, h⟩) | h
  · exact .inl (.inl (by rw [upd_ne (ne_of h hM (fun z => by cases z))]; exact h))
  · exact .inl (.inr ⟨o, by rw [upd_ne (ne_of h hM (fun z => by cases z))]; exact h⟩)
  · exact .inr h
theorem prAll_updL {H : Hp} {M : Addr} {ys zs : List V} (hM : H M = some (.lst ys)) : ∀ {xs : List V} {qs : List (Int × Int)}, PrAll K H xs qs → PrAll K (upd H M (.lst zs)) xs qs
  | _, _, .nil => .nil
  | _, _, .cons a b => by
    obtain ⟨p, e, h⟩ := a
    exact .cons ⟨p, e, sqT_updL h hM⟩ (prAll_updL hM b)
def cellsTo (lam : List Int) (i : Nat) : List (Int × Int) := (List.range i).flatMap fun r : Nat => (rgI 0 (lam.getD r 0)).map fun j => ((r : Int), j)
theorem cellsTo_succ (lam : List Int) (i : Nat) : cellsTo lam (i + 1) = cellsTo lam i ++ (rgI 0 (lam.getD i 0)).map fun j => ((i : Int), j) := by
  unfold cellsTo
  rw [List.range_succ, List.flatMap_append]
  simp
theorem rgI_succ {j : Nat} : rgI 0 ((j + 1 : Nat) : Int) = rgI 0 (j : Nat) ++ [(j : Int)] := by
  unfold rgI
  rw [show (((j + 1 : Nat) : Int) - 0).toNat = j + 1 by omega, show (((j : Nat) : Int) - 0).toNat = j by omega, List.range_succ, List.map_append]
  simp
theorem cellsTo_len (lam : List Int) (ht : ∀ x ∈ lam, x ≤ 100) : ∀ i, (cellsTo lam i).length ≤ 100 * i
  | 0 => Nat.zero_le _
  | i + 1 => by
    rw [cellsTo_succ, List.length_append, List.length_map, rgI_len]
    have := cellsTo_len lam ht i
    have h2 : lam.getD i 0 ≤ 100 := by
      rw [List.getD_eq_getElem?_getD]
      cases e : lam[i]? with
      | none => decide
      | some x => exact ht x (List.mem_of_getElem? e)
    omega
def spCells (K : PySem.W.Frag) (T : List (Addr × Str)) : Sp := fun vs H Q _ => ∃ (a : Addr) (lam : List Int), vs = [.ref a] ∧ Sq K H a (lam.map .int) ∧ lam.length ≤ 100 ∧ (∀ x ∈ lam, 0 ≤ x ∧ x ≤ 100) ∧ ∀ l xs H', Gr T H H' → H' l = some (.lst xs) → PrAll K H' xs (cellsTo lam lam.length) → Q (.ref l) H'
theorem rd_law_cells_of : ∀ vs H Q (E : XK), spCells K T vs H Q E → t__law_cells_of K (E_ Q) (start ["lam", "made", "i", "j"] vs) H := by
  intro vs H Q E h
  obtain ⟨a, lam, rfl, hs, hl, ht, q⟩ := h
  have hb := cellsTo_len lam fun x hx => (ht x hx).2
  unfold t__law_cells_of
  walk_at "go"
  intro M H1 nM g1 h1
  have hs1 : Sq K H1 a (lam.map V.int) := (g1 T).sq hs
  walk_at "go"
  refine fr_R1 (by omega) (by omega) (fun i σ H' => ∃ u v xs, σ = [some (.ref a), some (.ref M), u, v] ∧ Gr T H H' ∧ H' M = some (.lst xs) ∧ PrAll K H' xs (cellsTo lam i)) ⟨_, _, [], rfl, g1 T, h1, .nil⟩ (fun i σ' H' hi p => ?_) (fun σ' H' p => ?_)
  · obtain ⟨u, v, xs, rfl, g, hM, hp⟩ := p
    have hi' : i < lam.length := by omega
    walk_at "go"
    refine w_ixZ (g.sq hs) (by omega) (by omega) ?_
    have ei : lam.getD ((i : Nat) : Int).toNat 0 = lam.getD i 0 := rfl
    rw [ei]
    have hx : 0 ≤ lam.getD i 0 ∧ lam.getD i 0 ≤ 100 := by
      rw [List.getD_eq_getElem?_getD, List.getElem?_eq_getElem hi']
      exact ht _ (List.getElem_mem hi')
    walk_at "go"
    refine fr_R1 (by omega) (by omega) (fun j σ H' => ∃ v xs, σ = [some (.ref a), some (.ref M), some (.int (i : Nat)), v] ∧ Gr T H H' ∧ H' M = some (.lst xs) ∧ PrAll K H' xs (cellsTo lam i ++ (rgI 0 (j : Nat)).map fun j => ((i : Int), j))) ⟨_, xs, rfl, g, hM, by simpa [rgI] using hp⟩ (fun j σ2 H2 hj p2 => ?_) (fun σ2 H2 p2 => ?_)
    · obtain ⟨v, xs, rfl, g2, hM2, hp2⟩ := p2
      walk_at "go"
      refine ty_lst hM2 ?_
      walk_at "go"
      intro t H3 nt g3 h3
      have hM3 := (g3 T).lst hM2
      have hlen := hp2.len
      rw [List.length_append, List.length_map, rgI_len] at hlen
      have := hb i
      walk_at "go"
      refine w_append hM3 (by omega) ?_
      walk_at "go"
      have gg : Gr T H H3 := g2.trans (g3 T)
      refine ⟨_, _, rfl, gg.set nM hM3, upd_same, ?_⟩
      have hp3 := prAll_updL (zs := xs ++ [V.ref t]) hM3 (Gr.prs (g3 T) hp2)
      have ht3 : IsPr K (upd H3 M (.lst (xs ++ [V.ref t]))) (.ref t) ((i : Int), (j : Int)) := ⟨t, rfl, sqT_updL (sqT_of h3) hM3⟩
      have := prAll_app hp3 ht3
      rw [rgI_succ, List.map_append, ← List.append_assoc]
      exact this
    · obtain ⟨v, xs, rfl, g2, hM2, hp2⟩ := p2
      walk_at "go"
      refine ⟨_, _, xs, rfl, g2, hM2, ?_⟩
      rw [cellsTo_succ]
      have e : (((lam.getD i 0).toNat : Nat) : Int) = lam.getD i 0 := by omega
      rw [e] at hp2
      exact hp2
  · obtain ⟨u, v, xs, rfl, g, hM, hp⟩ := p
    walk_at "go"
    exact q M xs H' g hM hp
end K20
end
section
set_option Elab.async false
set_option linter.all false
set_option maxRecDepth 100000
set_option maxHeartbeats 4000000
namespace K20
open PySem PySem.Spec PyProof.Rows L2 LamX U Evl
/-! ### steps, by program -/
local macro_rules | `(tactic| walk_at "kp") => `(tactic| first
  | assumption
  | exact sqA_of (by assumption)
  | exact sqB_of (by assumption)
  | exact sqL_of (by assumption)
  | exact sqT_of (by assumption)
  | exact Or.inl (by assumption)
  | exact Or.inr (by assumption)
  | exact Gr.refl _ _
  | exact GrA.gr (by assumption)
  | (apply Gr.trans ?_ (by first | assumption | exact GrA.gr (by assumption)); walk_at "kp")
  | (apply Gr.sq; (first | assumption | exact GrA.gr (T := []) (by assumption)); walk_at "kp")
  | (apply Gr.sqL; (first | assumption | exact GrA.gr (T := []) (by assumption)); walk_at "kp")
  | (apply Gr.sqT; (first | assumption | exact GrA.gr (T := []) (by assumption)); walk_at "kp")
  | (apply Gr.lst; (first | assumption | exact GrA.gr (T := []) (by assumption)); walk_at "kp")
  | (apply Gr.tup; (first | assumption | exact GrA.gr (T := []) (by assumption)); walk_at "kp"))
local macro_rules | `(tactic| walk_at "s") => `(tactic| first
  | with_reducible first
    | refine w_seq ?_ | refine w_asg ?_ | refine w_gname ?_ | refine w_if ?_ | refine w_ret ?_ | refine w_next ?_ | refine w_drop ?_ | refine w_retN ?_ | refine w_brk ?_ | refine w_cont ?_ | refine w_gsub ?_
    | refine w_op ?_ | refine w_c ?_ | refine w_nil ?_ | refine w_cons ?_ | refine w_cb ?_ | refine w_un ?_
    | refine w_I0 ?_ | refine w_U ?_ | refine w_add ?_ | refine w_test ?_ | refine w_tB ?_ | refine w_tr ?_ | refine w_exn ?_ | refine w_trn ?_ | refine w_and ?_ | refine w_or ?_ | refine w_not ?_ | refine w_andV ?_ | refine w_orV ?_ | refine w_notV ?_ | refine w_ifE ?_
    | refine w_eqI ?_ | refine w_neI ?_ | refine w_eqS ?_ | refine w_neS ?_ | refine w_eqB ?_ | refine w_neB ?_ | refine w_isNo ?_ | refine w_notN ?_
    | refine w_call0 ?_ | refine w_tupK ?_ | refine w_lstK ?_ | refine w_bm ?_ | refine w_nop ?_ | refine w_part ?_ | refine w_exi ?_ | refine w_sl ?_
    | refine w_lcS ?_ | refine w_lcR1 ?_ | refine w_lcR2 ?_ | refine w_lcE ?_ | refine w_frS ?_ | refine w_frR1 ?_ | refine w_frR2 ?_ | refine w_frE ?_ | refine w_frT ?_
    | refine w_tYes ?_ | refine w_iteD ?_ | refine w_iteND ?_ | refine w_raise ?_ | refine raK1 ?_ | refine raK2 ?_ | refine w_iteNT ?_ | refine w_iteNF ?_ | refine w_ckw ?_ | refine w_callN ?_ | refine w_m1 ?_ | refine w_yes1 ?_ | refine w_iteT ?_ | refine w_iteF ?_ | refine w_abs ?_ | refine w_max2 ?_ | refine w_max3 ?_ | refine w_min2 ?_ | refine w_intI ?_
  | (refine w_var (by with_unfolding_all rfl) ?_)
  | (refine w_lenI (by walk_at "kp") ?_)
  | (refine w_len (by walk_at "kp") ?_)
  | (refine w_sum (by walk_at "kp") ?_)
  | (with_reducible refine lstK ?_ ?_; exact Nat.le_of_ble_eq_true rfl)
  | (with_reducible refine tupK ?_ ?_; exact Nat.le_of_ble_eq_true rfl)
  | (refine w_list (by walk_at "kp") ?_)
  | (refine w_tuple (by walk_at "kp") ?_)
  | (refine w_slI (by walk_at "kp") ?_)
  | (refine w_inI (by walk_at "kp") ?_)
  | (refine w_notInI (by walk_at "kp") ?_))
local macro_rules | `(tactic| walk_at "go") => `(tactic| repeat' (walk_at "s"))
variable {K : PySem.W.Frag} {T : List (Addr × Str)}
/-- a partition -/
structure Part (lam : List Int) : Prop where
  desc : lam.Pairwise (· ≥ ·)
  pos : ∀ x ∈ lam, 1 ≤ x
theorem sum_nonneg : ∀ {l : List Int}, (∀ x ∈ l, 0 ≤ x) → 0 ≤ l.sum
  | [], _ => Int.le_refl _
  | x :: r, h => by
    rw [List.sum_cons]
    have h1 := h x (List.mem_cons_self ..)
    have h2 := sum_nonneg (l := r) fun y hy => h y (List.mem_cons_of_mem _ hy)
    omega
theorem len_le_sum : ∀ {l : List Int}, (∀ x ∈ l, 1 ≤ x) → (l.length : Int) ≤ l.sum
  | [], _ => Int.le_refl _
  | x :: r, h => by
    rw [List.sum_cons, List.length_cons]
    have h1 := h x (List.mem_cons_self ..)
    have h2 := len_le_sum (l := r) fun y hy => h y (List.mem_cons_of_mem _ hy)
    omega
theorem mem_le_sum : ∀ {l : List Int}, (∀ x ∈ l, 0 ≤ x) → ∀ x ∈ l, x ≤ l.sum
  | [], _, x, hx => absurd hx (by simp)
  | y :: r, h, x, hx => by
    rw [List.sum_cons]
    have h1 := h y (List.mem_cons_self ..)
    have h2 := sum_nonneg (l := r) fun z hz => h z (List.mem_cons_of_mem _ hz)
    rcases List.mem_cons.mp hx with e | hx
    · omega
    · have := mem_le_sum (l := r) (fun z hz => h z (List.mem_cons_of_mem _ hz)) x hx
      omega
theorem Part.nn {lam : List Int} (p : Part lam) : ∀ x ∈ lam, 0 ≤ x := fun x hx => by have := p.pos x hx; omega
theorem Part.get {lam : List Int} (p : Part lam) {i : Nat} (hi : i < lam.length) : 1 ≤ lam.getD i 0 ∧ lam.getD i 0 ≤ lam.headD 0 := by
  rw [List.getD_eq_getElem?_getD, List.getElem?_eq_getElem hi]
  refine ⟨p.pos _ (List.getElem_mem hi), ?_⟩
  cases lam with
  | nil => exact absurd hi (Nat.not_lt_zero _)
  | cons x r =>
    show (x :: r)[i] ≤ x
    cases i with
    | zero => exact Int.le_refl _
    | succ i => exact (List.pairwise_cons.mp p.desc).1 _ (List.getElem_mem (by simpa using hi))
theorem cellsTo_mem {lam : List Int} {q : Int × Int} : ∀ {i : Nat}, q ∈ cellsTo lam i → ∃ r : Nat, r < i ∧ q.1 = r ∧ 0 ≤ q.2 ∧ q.2 < lam.getD r 0
  | 0, h => by cases h
  | i + 1, h => by
    rw [cellsTo_succ] at h
    rcases List.mem_append.mp h with h | h
    · obtain ⟨r, h1, h2⟩ := cellsTo_mem h
      exact ⟨r, by omega, h2⟩
    · obtain ⟨j, hj, rfl⟩ := List.mem_map.mp h
      have := mem_rgI.mp hj
      exact ⟨i, by omega, rfl, this⟩
/-! ### the law's flip -/
end K20
end
section
set_option Elab.async false
set_option linter.all false
set_option maxRecDepth 100000
set_option maxHeartbeats 4000000
namespace K20
open PySem PySem.Spec PyProof.Rows L2 LamX U Evl
/-! ### steps, by program -/
local macro_rules | `(tactic| walk_at "kp") => `(tactic| first
  | assumption
  | exact sqA_of (by assumption)
  | exact sqB_of (by assumption)
  | exact sqL_of (by assumption)
  | exact sqT_of (by assumption)
  | exact Or.inl (by assumption)
  | exact Or.inr (by assumption)
  | exact Gr.refl _ _
  | exact GrA.gr (by assumption)
  | (apply Gr.trans ?_ (by first | assumption | exact GrA.gr (by assumption)); walk_at "kp")
  | (apply Gr.sq; (first | assumption | exact GrA.gr (T := []) (by assumption)); walk_at "kp")
  | (apply Gr.sqL; (first | assumption | exact GrA.gr (T := []) (by assumption)); walk_at "kp")
  | (apply Gr.sqT; (first | assumption | exact GrA.gr (T := []) (by assumption)); walk_at "kp")
  | (apply Gr.lst; (first | assumption | exact GrA.gr (T := []) (by assumption)); walk_at "kp")
  | (apply Gr.tup; (first | assumption | exact GrA.gr (T := []) (by assumption)); walk_at "kp"))
local macro_rules | `(tactic| walk_at "s") => `(tactic| first
  | with_reducible first
    | refine w_seq ?_ | refine w_asg ?_ | refine w_gname ?_ | refine w_if ?_ | refine w_ret ?_ | refine w_next ?_ | refine w_drop ?_ | refine w_retN ?_ | refine w_brk ?_ | refine w_cont ?_ | refine w_gsub ?_
    | refine w_op ?_ | refine w_c ?_ | refine w_nil ?_ | refine w_cons ?_ | refine w_cb ?_ | refine w_un ?_
    | refine w_I0 ?_ | refine w_U ?_ | refine w_add ?_ | refine w_test ?_ | refine w_tB ?_ | refine w_tr ?_ | refine w_exn ?_ | refine w_trn ?_ | refine w_and ?_ | refine w_or ?_ | refine w_not ?_ | refine w_andV ?_ | refine w_orV ?_ | refine w_notV ?_ | refine w_ifE ?_
    | refine w_eqI ?_ | refine w_neI ?_ | refine w_eqS ?_ | refine w_neS ?_ | refine w_eqB ?_ | refine w_neB ?_ | refine w_isNo ?_ | refine w_notN ?_
    | refine w_call0 ?_ | refine w_tupK ?_ | refine w_lstK ?_ | refine w_bm ?_ | refine w_nop ?_ | refine w_part ?_ | refine w_exi ?_ | refine w_sl ?_
    | refine w_lcS ?_ | refine w_lcR1 ?_ | refine w_lcR2 ?_ | refine w_lcE ?_ | refine w_frS ?_ | refine w_frR1 ?_ | refine w_frR2 ?_ | refine w_frE ?_ | refine w_frT ?_
    | refine w_tYes ?_ | refine w_iteD ?_ | refine w_iteND ?_ | refine w_raise ?_ | refine raK1 ?_ | refine raK2 ?_ | refine w_iteNT ?_ | refine w_iteNF ?_ | refine w_ckw ?_ | refine w_callN ?_ | refine w_m1 ?_ | refine w_yes1 ?_ | refine w_iteT ?_ | refine w_iteF ?_ | refine w_abs ?_ | refine w_max2 ?_ | refine w_max3 ?_ | refine w_min2 ?_ | refine w_intI ?_
  | (refine w_var (by with_unfolding_all rfl) ?_)
  | (refine w_lenI (by walk_at "kp") ?_)
  | (refine w_len (by walk_at "kp") ?_)
  | (refine w_sum (by walk_at "kp") ?_)
  | (with_reducible refine lstK ?_ ?_; exact Nat.le_of_ble_eq_true rfl)
  | (with_reducible refine tupK ?_ ?_; exact Nat.le_of_ble_eq_true rfl)
  | (refine w_list (by walk_at "kp") ?_)
  | (refine w_tuple (by walk_at "kp") ?_)
  | (refine w_slI (by walk_at "kp") ?_)
  | (refine w_inI (by walk_at "kp") ?_)
  | (refine w_notInI (by walk_at "kp") ?_))
local macro_rules | `(tactic| walk_at "go") => `(tactic| repeat' (walk_at "s"))
variable {K : PySem.W.Frag} {T : List (Addr × Str)}
def spStair (K : PySem.W.Frag) (T : List (Addr × Str)) : Sp := fun vs H Q _ => ∃ (J : Addr) (most : Int), vs = [.ref J, .int most] ∧ Jar K H J ∧ 0 ≤ most ∧ most ≤ 1000 ∧ ∀ l lam H', Gr T H H' → SqT K H' l (List.map V.int lam) → Part lam → lam.sum ≤ most → Q (.ref l) H'
theorem part_snoc {lam : List Int} {x : Int} (p : Part lam) (h : 1 ≤ x) (hx : ∀ y, lam.getLast? = some y → x ≤ y) : Part (lam ++ [x]) := by
  refine ⟨?_, fun y hy => ?_⟩
  · rw [List.pairwise_append]
    refine ⟨p.desc, List.pairwise_singleton _ _, fun y hy z hz => ?_⟩
    have ez : z = x := by simpa using hz
    subst ez
    -- the last one is the least
    have key : ∀ {l : List Int}, l.Pairwise (· ≥ ·) → (∀ y, l.getLast? = some y → z ≤ y) → ∀ y ∈ l, y ≥ z := by
      intro l
      induction l with
      | nil => intro _ _ y hy; exact absurd hy (by simp)
      | cons a r ih =>
        intro hpw hlast y hy
        cases r with
        | nil =>
          have : y = a := by simpa using hy
          rw [this]
          exact hlast a rfl
        | cons b r =>
          have h1 := ih (List.pairwise_cons.mp hpw).2 (fun w hw => hlast w (by rw [List.getLast?_cons_cons]; exact hw))
          rcases List.mem_cons.mp hy with e | hy
          · rw [e]
            have h2 := (List.pairwise_cons.mp hpw).1 b (List.mem_cons_self ..)
            have h3 := h1 b (List.mem_cons_self ..)
            omega
          · exact h1 y hy
    exact key p.desc hx y hy
  · rcases List.mem_append.mp hy with h1 | h1
    · exact p.pos y h1
    · have : y = x := by simpa using h1
      rw [this]
      exact h
theorem rd_law_stair : ∀ vs H Q (E : XK), spStair K T vs H Q E → t__law_stair K (spDraw K) (E_ Q) (start ["jar", "most", "left", "rows", "last", "turn"] vs) H := by
  intro vs H Q E h
  obtain ⟨J, most, rfl, hj, m0, m1, q⟩ := h
  unfold t__law_stair
  walk_at "go"
  refine ⟨J, _, rfl, hj, by omega, by omega, fun d d0 d1 => ?_⟩
  walk_at "go"
  intro R H1 nR g1 h1
  walk_at "go"
  refine fr_R1 (by omega) (by omega) (fun i σ H' => ∃ (left last : Int) (u : Option V) (lam : List Int), σ = [some (.ref J), some (.int most), some (.int left), some (.ref R), some (.int last), u] ∧ Gr T H H' ∧ H' R = some (.lst (lam.map V.int)) ∧ Part lam ∧ lam.sum + left = d ∧ 0 ≤ left ∧ (left > 0 → 1 ≤ last) ∧ (∀ y, lam.getLast? = some y → last ≤ y))
    ⟨d, d, _, [], rfl, g1 T, h1, ⟨List.Pairwise.nil, fun x hx => absurd hx (by simp)⟩, by simp, d0, fun h => h, fun y hy => by cases hy⟩ (fun i σ' H' hi p => ?_) (fun σ' H' p => ?_)
  · obtain ⟨left, last, u, lam, rfl, g, hR, hp, hsum, l0, l1, hlast⟩ := p
    walk_at "go"
    refine w_dec (fun e => ?_) (fun e => ?_)
    · have hl := l1 e
      have hnn := sum_nonneg hp.nn
      walk_at "go"
      refine ⟨J, min last left, rfl, g.jar hj, by omega, by omega, fun c c0 c1 => ?_⟩
      walk_at "go"
      refine ty_lst hR ?_
      walk_at "go"
      have h2 := len_le_sum hp.pos
      refine w_append hR (by rw [List.length_map]; omega) ?_
      walk_at "go"
      refine ⟨_, _, _, lam ++ [1 + c], rfl, g.set nR hR, by rw [upd_same, List.map_append] <;> rfl, part_snoc hp (by omega) (fun y hy => by have := hlast y hy; omega), ?_, by omega, fun _ => by omega, fun y hy => ?_⟩
      · rw [List.sum_append]
        simp
        omega
      · rw [List.getLast?_append] at hy
        simp at hy
        omega
    · walk_at "go"
      exact ⟨left, last, _, lam, rfl, g, hR, hp, hsum, l0, l1, hlast⟩
  · obtain ⟨left, last, u, lam, rfl, g, hR, hp, hsum, l0, l1, hlast⟩ := p
    walk_at "go"
    intro l H2 g2 h2
    exact q l lam H2 (by walk_at "kp") h2 hp (by omega)
/-! ### texts of numbers below 100 -/
def dec (n : Int) : Str := (toString n : String)
theorem dec_fin : ∀ n : Fin 100, isDig (dec (n : Nat)) = true ∧ PySem.intText? (dec (n : Nat)) = some ((n : Nat) : Int) ∧ (dec (n : Nat)).length ≤ 2 ∧ 32 ∉ TL.tl (dec (n : Nat)) ∧ (dec (n : Nat)).cps.toList.head? ≠ some 98 := by decide +kernel
theorem dec_ok {n : Int} (h0 : 0 ≤ n) (h1 : n < 100) : isDig (dec n) = true ∧ PySem.intText? (dec n) = some n ∧ (dec n).length ≤ 2 ∧ 32 ∉ TL.tl (dec n) ∧ (dec n).cps.toList.head? ≠ some 98 := by
  have := dec_fin ⟨n.toNat, by omega⟩
  have e : (((⟨n.toNat, by omega⟩ : Fin 100) : Nat) : Int) = n := by
    show ((n.toNat : Nat) : Int) = n
    omega
  rw [e] at this
  exact this
theorem worth_dec {n : Int} (h0 : 0 ≤ n) (h1 : n < 100) : worth (dec n) = .int n := by
  obtain ⟨a, b, _⟩ := dec_ok h0 h1
  unfold worth
  rw [if_pos a, b]
  rfl
theorem joinL_len (S : List Nat) : ∀ ps : List (List Nat), (TL.joinL S ps).length ≤ (ps.map List.length).sum + ps.length * S.length
  | [] => by simp [TL.joinL]
  | [p] => by simp [TL.joinL]
  | p :: q :: r => by
    have := joinL_len S (q :: r)
    show (p ++ (S ++ TL.joinL S (q :: r))).length ≤ _
    rw [List.length_append, List.length_append, List.map_cons, List.sum_cons, List.length_cons]
    have e : ((q :: r).length + 1) * S.length = (q :: r).length * S.length + S.length := by rw [Nat.add_mul, Nat.one_mul]
    omega
theorem str_len (x : Str) : x.length = (TL.tl x).length := by
  show x.cps.size = x.cps.toList.length
  rw [Array.length_toList]
theorem join_len {parts : List Str} (h : ∀ p ∈ parts, p.length ≤ 10) (hl : parts.length ≤ 1000) : (Txt.join " " parts).length ≤ 11000 ∧ (parts.map (·.length)).sum ≤ 10000 := by
  have key : ∀ l : List Str, (∀ p ∈ l, p.length ≤ 10) → (l.map (·.length)).sum ≤ 10 * l.length := by
    intro l
    induction l with
    | nil => intro _; exact Nat.le_refl _
    | cons x r ih =>
      intro h
      rw [List.map_cons, List.sum_cons, List.length_cons]
      have h1 := h x (List.mem_cons_self ..)
      have h2 := ih fun p hp => h p (List.mem_cons_of_mem _ hp)
      omega
  have k1 := key parts h
  refine ⟨?_, by omega⟩
  rw [str_len, TL.join_eq, TL.tl_join]
  refine Nat.le_trans (joinL_len _ _) ?_
  rw [List.map_map, List.length_map]
  have e : (List.length ∘ TL.tl) = fun x : Str => x.length := by
    funext x
    exact (str_len x).symm
  rw [e]
  have e2 : (TL.tl " ").length = 1 := by decide
  rw [e2]
  omega
/-- words joined by blanks, as rows_of reads them -/
theorem rowsArg_join {H : Hp} {parts : List Str} (hne : parts ≠ []) (hl : parts.length ≤ 1000) (h : ∀ p ∈ parts, p.length ≤ 10 ∧ 32 ∉ TL.tl p ∧ p ≠ "bare" ∧ (isDig p = true → (PySem.intText? p).isSome = true)) : RowsArg K H (.str (Txt.join " " parts)) (parts.map worth) := by
  have es : ∀ {ps : List Str}, ps ≠ [] → (∀ p ∈ ps, 32 ∉ TL.tl p) → Txt.split (Txt.join " " ps) " " = ps := fun {ps} n hp => TL.split_join (y := " ") (s := 32) (S := []) (by decide +kernel) (by decide +kernel) n hp
  have e1 := es hne fun p hp => (h p hp).2.1
  obtain ⟨l1, l2⟩ := join_len (fun p hp => (h p hp).1) hl
  have := RowsArg.text (K := K) (H := H) (z := Txt.join " " parts) (by omega) (fun e => ?_) (fun y hy => ?_) (by rw [e1]; omega)
  · rw [e1] at this
    exact this
  · have e2 := es (ps := ["bare"]) (by simp) (by decide)
    have e3 : Txt.join " " ["bare"] = "bare" := by rw [TL.join_eq] <;> rfl
    rw [e3, ← e, e1] at e2
    exact (h "bare" (by rw [e2, ← e, e2]; simp)).2.2.1 rfl
  · rw [e1] at hy
    exact ⟨by have := (h y hy).1; omega, (h y hy).2.2.2⟩
end K20
end
section
set_option Elab.async false
set_option linter.all false
set_option maxRecDepth 100000
set_option maxHeartbeats 4000000
namespace K20
open PySem PySem.Spec PyProof.Rows L2 LamX U Evl
/-! ### steps, by program -/
local macro_rules | `(tactic| walk_at "kp") => `(tactic| first
  | assumption
  | exact sqA_of (by assumption)
  | exact sqB_of (by assumption)
  | exact sqL_of (by assumption)
  | exact sqT_of (by assumption)
  | exact Or.inl (by assumption)
  | exact Or.inr (by assumption)
  | exact Gr.refl _ _
  | exact GrA.gr (by assumption)
  | (apply Gr.trans ?_ (by first | assumption | exact GrA.gr (by assumption)); walk_at "kp")
  | (apply Gr.sq; (first | assumption | exact GrA.gr (T := []) (by assumption)); walk_at "kp")
  | (apply Gr.sqL; (first | assumption | exact GrA.gr (T := []) (by assumption)); walk_at "kp")
  | (apply Gr.sqT; (first | assumption | exact GrA.gr (T := []) (by assumption)); walk_at "kp")
  | (apply Gr.lst; (first | assumption | exact GrA.gr (T := []) (by assumption)); walk_at "kp")
  | (apply Gr.tup; (first | assumption | exact GrA.gr (T := []) (by assumption)); walk_at "kp"))
local macro_rules | `(tactic| walk_at "s") => `(tactic| first
  | with_reducible first
    | refine w_seq ?_ | refine w_asg ?_ | refine w_gname ?_ | refine w_if ?_ | refine w_ret ?_ | refine w_next ?_ | refine w_drop ?_ | refine w_retN ?_ | refine w_brk ?_ | refine w_cont ?_ | refine w_gsub ?_
    | refine w_op ?_ | refine w_c ?_ | refine w_nil ?_ | refine w_cons ?_ | refine w_cb ?_ | refine w_un ?_
    | refine w_I0 ?_ | refine w_U ?_ | refine w_add ?_ | refine w_test ?_ | refine w_tB ?_ | refine w_tr ?_ | refine w_exn ?_ | refine w_trn ?_ | refine w_and ?_ | refine w_or ?_ | refine w_not ?_ | refine w_andV ?_ | refine w_orV ?_ | refine w_notV ?_ | refine w_ifE ?_
    | refine w_eqI ?_ | refine w_neI ?_ | refine w_eqS ?_ | refine w_neS ?_ | refine w_eqB ?_ | refine w_neB ?_ | refine w_isNo ?_ | refine w_notN ?_
    | refine w_call0 ?_ | refine w_tupK ?_ | refine w_lstK ?_ | refine w_bm ?_ | refine w_nop ?_ | refine w_part ?_ | refine w_exi ?_ | refine w_sl ?_
    | refine w_lcS ?_ | refine w_lcR1 ?_ | refine w_lcR2 ?_ | refine w_lcE ?_ | refine w_frS ?_ | refine w_frR1 ?_ | refine w_frR2 ?_ | refine w_frE ?_ | refine w_frT ?_
    | refine w_tYes ?_ | refine w_iteD ?_ | refine w_iteND ?_ | refine w_raise ?_ | refine raK1 ?_ | refine raK2 ?_ | refine w_iteNT ?_ | refine w_iteNF ?_ | refine w_ckw ?_ | refine w_callN ?_ | refine w_m1 ?_ | refine w_yes1 ?_ | refine w_iteT ?_ | refine w_iteF ?_ | refine w_abs ?_ | refine w_max2 ?_ | refine w_max3 ?_ | refine w_min2 ?_ | refine w_intI ?_
  | (refine w_var (by with_unfolding_all rfl) ?_)
  | (refine w_lenI (by walk_at "kp") ?_)
  | (refine w_len (by walk_at "kp") ?_)
  | (refine w_sum (by walk_at "kp") ?_)
  | (with_reducible refine lstK ?_ ?_; exact Nat.le_of_ble_eq_true rfl)
  | (with_reducible refine tupK ?_ ?_; exact Nat.le_of_ble_eq_true rfl)
  | (refine w_list (by walk_at "kp") ?_)
  | (refine w_tuple (by walk_at "kp") ?_)
  | (refine w_slI (by walk_at "kp") ?_)
  | (refine w_inI (by walk_at "kp") ?_)
  | (refine w_notInI (by walk_at "kp") ?_))
local macro_rules | `(tactic| walk_at "go") => `(tactic| repeat' (walk_at "s"))
variable {K : PySem.W.Frag} {T : List (Addr × Str)}
theorem rowsArg_ints {H : Hp} {a : Addr} {lam : List Int} (h : Sq K H a (lam.map V.int)) (hl : lam.length ≤ 1000) : RowsArg K H (.ref a) (lam.map V.int) :=
  .seq h (by rw [List.length_map]; exact hl) (fun x hx => by obtain ⟨n, _, rfl⟩ := List.mem_map.mp hx; exact .int n) fun z hz => by obtain ⟨n, _, e⟩ := List.mem_map.mp hz; cases e
def spStairIn (K : PySem.W.Frag) (T : List (Addr × Str)) : Sp := fun vs H Q _ => ∃ (J a : Addr) (lam : List Int), vs = [.ref J, .ref a] ∧ Jar K H J ∧ SqT K H a (lam.map V.int) ∧ Part lam ∧ lam.sum ≤ 99 ∧ ∀ v H', Gr T H H' → RowsArg K H' v (lam.map V.int) → Q v H'
theorem rd_law_stair_in : ∀ vs H Q (E : XK), spStairIn K T vs H Q E → t__law_stair_in K (spDraw K) (E_ Q) (start ["jar", "lam", "way", "n"] vs) H := by
  intro vs H Q E h
  obtain ⟨J, a, lam, rfl, hj, hs, hp, hz, q⟩ := h
  have hl := len_le_sum hp.pos
  have ht := mem_le_sum hp.nn
  have hs0 : Sq K H a (lam.map V.int) := .inr hs
  unfold t__law_stair_in
  walk_at "go"
  refine ⟨J, 3, rfl, hj, by omega, by omega, fun d d0 d1 => ?_⟩
  walk_at "go"
  refine w_dec (fun e => ?_) (fun e => ?_)
  · walk_at "go"
    exact q _ H (Gr.refl _ _) (rowsArg_ints hs0 (by omega))
  · walk_at "go"
    refine w_dec (fun e => ?_) (fun e => ?_)
    · walk_at "go"
      intro l H1 nl g1 h1
      exact q _ H1 (g1 T) (rowsArg_ints (sqA_of h1) (by omega))
    · walk_at "go"
      refine w_dec (fun e => ?_) (fun e => ?_)
      · walk_at "go"
        refine lc_I (T := T) hs0 (fun _ => true) (fun n => .str (dec n)) (by omega) (fun _ => rfl) (fun m hm H5 g5 Yes No hy hno => ?_) (fun D H1 g1 nD h1 => ?_)
        · walk_at "go"
          have h1 := hp.pos m hm
          have h2 := ht m hm
          refine w_strI ?_ ?_
          · have : m.natAbs.log2 ≤ m.natAbs := Nat.log2_le_self _
            omega
          · exact hy rfl _ (Gr.refl _ _)
        · have e1 : H1 D = some (.lst ((lam.map dec).map V.str)) := by
            rw [h1, List.filter_eq_self.mpr (fun _ _ => rfl), List.map_map] <;> rfl
          have hw : ∀ p ∈ lam.map dec, p.length ≤ 10 ∧ 32 ∉ TL.tl p ∧ p ≠ "bare" ∧ (isDig p = true → (PySem.intText? p).isSome = true) := fun p hp2 => by
            obtain ⟨n, hn, rfl⟩ := List.mem_map.mp hp2
            obtain ⟨d1, d2, d3, d4, d5⟩ := dec_ok (n := n) (by have := hp.pos n hn; omega) (by have := ht n hn; omega)
            refine ⟨by omega, d4, fun z => ?_, fun _ => by rw [d2] <;> rfl⟩
            rw [z] at d5
            exact d5 (by decide +kernel)
          obtain ⟨l1, l2⟩ := join_len (fun p hp => (hw p hp).1) (show (lam.map dec).length ≤ 1000 by rw [List.length_map]; omega)
          have e2 : (" " : Str).length = 1 := by decide
          refine ⟨" ", D, lam.map dec, rfl, rfl, .inl (sqL_of e1), by rw [e2, List.length_map]; omega, q _ H1 g1 ?_⟩
          have := rowsArg_join (K := K) (H := H1) (parts := lam.map dec) (fun z => by
            have := List.map_eq_nil_iff.mp z
            rw [this] at e
            exact absurd e (by decide)) (by rw [List.length_map]; omega) hw
          have ew : (lam.map dec).map worth = lam.map V.int := by
            rw [List.map_map]
            refine List.map_congr_left fun n hn => ?_
            exact worth_dec (by have := hp.pos n hn; omega) (by have := ht n hn; omega)
          rw [ew] at this
          exact this
      · walk_at "go"
        have : lam = [] := List.eq_nil_of_length_eq_zero (by omega)
        rw [this] at q
        exact q _ H (Gr.refl _ _) .bare
/-! ### bent stairs -/
def BadIn (ah : Option Int) : V → Prop
  | .int n => n < 1 ∨ ∃ m, ah = some m ∧ m < n
  | _ => True
theorem wrong_here {ah : Option Int} {x : V} {post : List V} {i : Nat} (h : BadIn ah x) : wrongAt ah (x :: post) i = some i := by
  cases x with
  | int n =>
    unfold wrongAt
    rcases h with h | ⟨m, e, h⟩
    · rw [if_pos h]
    · subst e
      by_cases z : n < 1
      · rw [if_pos z]
      · rw [if_neg z]
        show (if m < n then some i else _) = _
        rw [if_pos h]
  | _ => rfl
theorem wrong_pre {x : V} {post : List V} : ∀ {pre : List Int} {ah : Option Int} {i : Nat}, (∀ y ∈ pre, 1 ≤ y) → pre.Pairwise (· ≥ ·) → (∀ m, ah = some m → ∀ y, pre.head? = some y → y ≤ m) → BadIn (match pre.getLast? with | some y => some y | none => ah) x → wrongAt ah (pre.map V.int ++ x :: post) i = some (i + pre.length)
  | [], ah, i, _, _, _, h => wrong_here h
  | n :: r, ah, i, hp, hd, hh, h => by
    have ih := wrong_pre (x := x) (post := post) (pre := r) (ah := some n) (i := i + 1) (fun y hy => hp y (List.mem_cons_of_mem _ hy)) (List.pairwise_cons.mp hd).2 (fun m e y hy => by
      cases e
      cases r with
      | nil => cases hy
      | cons z s =>
        have : z = y := Option.some.inj hy
        rw [← this]
        exact (List.pairwise_cons.mp hd).1 z (List.mem_cons_self ..)) (by
      cases r with
      | nil => exact h
      | cons z s =>
        rw [List.getLast?_cons_cons] at h
        cases e : (z :: s).getLast? with
        | none => exact absurd (List.getLast?_eq_none_iff.mp e) (by simp)
        | some w => rw [e] at h; exact h)
    show wrongAt ah (V.int n :: (r.map V.int ++ x :: post)) i = _
    unfold wrongAt
    have h1 := hp n (List.mem_cons_self ..)
    rw [if_neg (by omega)]
    have e : i + (n :: r).length = i + 1 + r.length := by rw [List.length_cons]; omega
    rw [e]
    cases ah with
    | none => exact ih
    | some m =>
      show (if m < n then some i else _) = _
      rw [if_neg (by have := hh m rfl n rfl; omega)]
      exact ih
theorem wrong_ok : ∀ {lam : List Int} {ah : Option Int} {i : Nat}, (∀ y ∈ lam, 1 ≤ y) → lam.Pairwise (· ≥ ·) → (∀ m, ah = some m → ∀ y, lam.head? = some y → y ≤ m) → wrongAt ah (lam.map V.int) i = none
  | [], ah, i, _, _, _ => rfl
  | n :: r, ah, i, hp, hd, hh => by
    have ih := wrong_ok (lam := r) (ah := some n) (i := i + 1) (fun y hy => hp y (List.mem_cons_of_mem _ hy)) (List.pairwise_cons.mp hd).2 (fun m e y hy => by
      cases e
      cases r with
      | nil => cases hy
      | cons z s =>
        have : z = y := Option.some.inj hy
        rw [← this]
        exact (List.pairwise_cons.mp hd).1 z (List.mem_cons_self ..))
    show wrongAt ah (V.int n :: r.map V.int) i = _
    unfold wrongAt
    have h1 := hp n (List.mem_cons_self ..)
    rw [if_neg (by omega)]
    cases ah with
    | none => exact ih
    | some m =>
      show (if m < n then some i else _) = _
      rw [if_neg (by have := hh m rfl n rfl; omega)]
      exact ih
theorem Part.ok {lam : List Int} (p : Part lam) : wrongAt none (lam.map V.int) 0 = none := wrong_ok p.pos p.desc (fun m e => by cases e)
theorem wrong_set {lam : List Int} (p : Part lam) {j : Nat} (hj : j < lam.length) {x : V} (h : BadIn (if j = 0 then none else some (lam.getD (j - 1) 0)) x) : wrongAt none ((lam.map V.int).set j x) 0 = some j := by
  have e : (lam.map V.int).set j x = (lam.take j).map V.int ++ x :: (lam.map V.int).drop (j + 1) := by
    rw [List.set_eq_take_append_cons_drop, if_pos (by rw [List.length_map]; exact hj), List.map_take]
  rw [e]
  have := wrong_pre (x := x) (post := (lam.map V.int).drop (j + 1)) (pre := lam.take j) (ah := none) (i := 0) (fun y hy => p.pos y (List.mem_of_mem_take hy)) (p.desc.sublist (List.take_sublist _ _)) (fun m e => by cases e) (by
    by_cases z : j = 0
    · subst z
      simpa using h
    · rw [if_neg z] at h
      have el : (lam.take j).getLast? = some (lam.getD (j - 1) 0) := by
        rw [List.getLast?_eq_getElem?, List.length_take, Nat.min_eq_left (Nat.le_of_lt hj), List.getElem?_take_of_lt (by omega), List.getD_eq_getElem?_getD, List.getElem?_eq_getElem (by omega)] <;> rfl
      rw [el]
      exact h)
  rw [this, Nat.zero_add, List.length_take, Nat.min_eq_left (Nat.le_of_lt hj)]
end K20
end
section
set_option Elab.async false
set_option linter.all false
set_option maxRecDepth 100000
set_option maxHeartbeats 4000000
namespace K20
open PySem PySem.Spec PyProof.Rows L2 LamX U Evl
/-! ### steps, by program -/
local macro_rules | `(tactic| walk_at "kp") => `(tactic| first
  | assumption
  | exact sqA_of (by assumption)
  | exact sqB_of (by assumption)
  | exact sqL_of (by assumption)
  | exact sqT_of (by assumption)
  | exact Or.inl (by assumption)
  | exact Or.inr (by assumption)
  | exact Gr.refl _ _
  | exact GrA.gr (by assumption)
  | (apply Gr.trans ?_ (by first | assumption | exact GrA.gr (by assumption)); walk_at "kp")
  | (apply Gr.sq; (first | assumption | exact GrA.gr (T := []) (by assumption)); walk_at "kp")
  | (apply Gr.sqL; (first | assumption | exact GrA.gr (T := []) (by assumption)); walk_at "kp")
  | (apply Gr.sqT; (first | assumption | exact GrA.gr (T := []) (by assumption)); walk_at "kp")
  | (apply Gr.lst; (first | assumption | exact GrA.gr (T := []) (by assumption)); walk_at "kp")
  | (apply Gr.tup; (first | assumption | exact GrA.gr (T := []) (by assumption)); walk_at "kp"))
local macro_rules | `(tactic| walk_at "s") => `(tactic| first
  | with_reducible first
    | refine w_seq ?_ | refine w_asg ?_ | refine w_gname ?_ | refine w_if ?_ | refine w_ret ?_ | refine w_next ?_ | refine w_drop ?_ | refine w_retN ?_ | refine w_brk ?_ | refine w_cont ?_ | refine w_gsub ?_
    | refine w_op ?_ | refine w_c ?_ | refine w_nil ?_ | refine w_cons ?_ | refine w_cb ?_ | refine w_un ?_
    | refine w_I0 ?_ | refine w_U ?_ | refine w_add ?_ | refine w_test ?_ | refine w_tB ?_ | refine w_tr ?_ | refine w_exn ?_ | refine w_trn ?_ | refine w_and ?_ | refine w_or ?_ | refine w_not ?_ | refine w_andV ?_ | refine w_orV ?_ | refine w_notV ?_ | refine w_ifE ?_
    | refine w_eqI ?_ | refine w_neI ?_ | refine w_eqS ?_ | refine w_neS ?_ | refine w_eqB ?_ | refine w_neB ?_ | refine w_isNo ?_ | refine w_notN ?_
    | refine w_call0 ?_ | refine w_tupK ?_ | refine w_lstK ?_ | refine w_bm ?_ | refine w_nop ?_ | refine w_part ?_ | refine w_exi ?_ | refine w_sl ?_
    | refine w_lcS ?_ | refine w_lcR1 ?_ | refine w_lcR2 ?_ | refine w_lcE ?_ | refine w_frS ?_ | refine w_frR1 ?_ | refine w_frR2 ?_ | refine w_frE ?_ | refine w_frT ?_
    | refine w_tYes ?_ | refine w_iteD ?_ | refine w_iteND ?_ | refine w_raise ?_ | refine raK1 ?_ | refine raK2 ?_ | refine w_iteNT ?_ | refine w_iteNF ?_ | refine w_ckw ?_ | refine w_callN ?_ | refine w_m1 ?_ | refine w_yes1 ?_ | refine w_iteT ?_ | refine w_iteF ?_ | refine w_abs ?_ | refine w_max2 ?_ | refine w_max3 ?_ | refine w_min2 ?_ | refine w_intI ?_
  | (refine w_var (by with_unfolding_all rfl) ?_)
  | (refine w_lenI (by walk_at "kp") ?_)
  | (refine w_len (by walk_at "kp") ?_)
  | (refine w_sum (by walk_at "kp") ?_)
  | (with_reducible refine lstK ?_ ?_; exact Nat.le_of_ble_eq_true rfl)
  | (with_reducible refine tupK ?_ ?_; exact Nat.le_of_ble_eq_true rfl)
  | (refine w_list (by walk_at "kp") ?_)
  | (refine w_tuple (by walk_at "kp") ?_)
  | (refine w_slI (by walk_at "kp") ?_)
  | (refine w_inI (by walk_at "kp") ?_)
  | (refine w_notInI (by walk_at "kp") ?_))
local macro_rules | `(tactic| walk_at "go") => `(tactic| repeat' (walk_at "s"))
variable {K : PySem.W.Frag} {T : List (Addr × Str)}
/-- a bent stair and the place of its first fault -/
def Bent (K : PySem.W.Frag) (H : Hp) (w : V) : Prop := ∃ p v xs, ∃ at_ : Nat, w = .ref p ∧ SqT K H p [v, .int (at_ : Nat)] ∧ RowsArg K H v xs ∧ wrongAt none xs 0 = some at_
def spBent (K : PySem.W.Frag) (T : List (Addr × Str)) : Sp := fun vs H Q _ => ∃ (J a : Addr) (lam : List Int), vs = [.ref J, .ref a] ∧ Jar K H J ∧ SqT K H a (lam.map V.int) ∧ Part lam ∧ lam.sum ≤ 99 ∧ ∀ v H', Gr T H H' → Bent K H' v → Q v H'
theorem kd_set {H : Hp} {lam : List Int} {j : Nat} {x : V} (h : Kd K H x) : ∀ y ∈ (lam.map V.int).set j x, Kd K H y := fun y hy => by
  rcases List.mem_or_eq_of_mem_set hy with h1 | h1
  · obtain ⟨n, _, rfl⟩ := List.mem_map.mp h1
    exact .int n
  · rw [h1]; exact h
theorem rowsArg_set {H : Hp} {a : Addr} {lam : List Int} {j : Nat} {x : V} (h : Sq K H a ((lam.map V.int).set j x)) (hl : lam.length ≤ 1000) (hx : Kd K H x) (hz : ∀ z, x = .str z → z.length ≤ 640) : RowsArg K H (.ref a) ((lam.map V.int).set j x) :=
  .seq h (by rw [List.length_set, List.length_map]; exact hl) (kd_set hx) fun z hz2 => by
    rcases List.mem_or_eq_of_mem_set hz2 with h1 | h1
    · obtain ⟨n, _, e⟩ := List.mem_map.mp h1
      cases e
    · exact hz z h1.symm
theorem rd_law_bent_stair : ∀ vs H Q (E : XK), spBent K T vs H Q E → t__law_bent_stair K (spDraw K) (spPick K) (E_ Q) (start ["jar", "lam", "rows", "at", "way", "words", "n"] vs) H := by
  intro vs H Q E h
  obtain ⟨J, a, lam, rfl, hj, hs, hp, hz, q⟩ := h
  have hs0 : Sq K H a (lam.map V.int) := .inr hs
  unfold t__law_bent_stair
  -- a thing out of the menu is put in
  have menu : ∀ (R : Addr) (H1 : Hp) (rows : List Int) (Q1 : V → Hp → Prop) (d w : Int) (u v : Option V), (∀ v H', Gr T H H' → Bent K H' v → Q1 v H') → Gr T H H1 → H R = none → Jar K H1 J → H1 R = some (.lst (rows.map V.int)) → Part rows → rows.length ≤ 1000 → 0 ≤ d → d < rows.length →
      (tSeq (tAsg (tCall (spPick K) [] E0 (tCons (tVar 0) (tCons (tLst (tCons (tC (.int 0)) (tCons (tOp qSub (tC (.int 0)) (tC (.int 1))) (tCons (tC (.bl true)) (tCons (tC .non) (tCons (tC (.str "1")) (tCons (tTup (tCons (tC (.int 1)) tNil)) (tCons (tOp qSub (tC (.int 0)) (tC (.int 7))) tNil)))))))) tNil))) (gSub (tVar 2) (tVar 3) rSetL))
        (tRet (tTup (tCons (tIf (tTest (tOp (uEq K) (tVar 4) (tC (.int 2)))) (tVar 2) (tCB (uTup K) (tCons (tVar 2) tNil))) (tCons (tVar 3) tNil))))) (E_ Q1) [some (.ref J), some (.ref a), some (.ref R), some (.int d), some (.int w), u, v] H1 := by
    intro R H1 rows Q1 d w u v q1 gH nR hj1 hR hpr hl d0 d1
    have hd : d.toNat < rows.length := by omega
    have ed : ((d.toNat : Nat) : Int) = d := by omega
    walk_at "go"
    intro t H2 nt g2 h2
    walk_at "go"
    intro m H3 nm g3 h3
    walk_at "go"
    have gg : Gr T H1 H3 := (g2 T).trans (g3 T)
    refine ⟨J, m, _, rfl, gg.jar hj1, sqA_of h3, Nat.zero_lt_succ _, Nat.le_of_ble_eq_true rfl, fun x hx => ?_⟩
    have ht3 : SqT K H3 t [.int 1] := (g3 T).sqT (sqT_of h2)
    have hR3 := gg.lst hR
    have hx1 : Kd K H3 x ∧ (∀ z, x = .str z → z.length ≤ 640) ∧ (∀ ah, BadIn ah x) := by
      simp only [List.mem_cons, List.not_mem_nil, or_false] at hx
      rcases hx with rfl | rfl | rfl | rfl | rfl | rfl | rfl
      · exact ⟨.int _, (fun z e => by cases e), fun _ => .inl (by decide)⟩
      · exact ⟨.int _, (fun z e => by cases e), fun _ => .inl (by decide)⟩
      · exact ⟨.bl _, (fun z e => by cases e), fun _ => trivial⟩
      · exact ⟨.non, (fun z e => by cases e), fun _ => trivial⟩
      · exact ⟨.str _, (fun z e => by cases e; decide), fun _ => trivial⟩
      · exact ⟨.tup ht3, (fun z e => by cases e), fun _ => trivial⟩
      · exact ⟨.int _, (fun z e => by cases e), fun _ => .inl (by decide)⟩
    obtain ⟨k1, k2, k3⟩ := hx1
    have hw := wrong_set hpr hd (k3 _)
    walk_at "go"
    refine w_set hR3 d0 (by rw [List.length_map]; exact d1) ?_
    have g4 : Gr T H (upd H3 R (.lst ((rows.map V.int).set d.toNat x))) := (gH.trans gg).set nR hR3
    have kx : Kd K (upd H3 R (.lst ((rows.map V.int).set d.toNat x))) x := by
      cases k1 with
      | int i => exact .int i
      | bl b => exact .bl b
      | str s => exact .str s
      | non => exact .non
      | lst h =>
        rename_i b xs
        simp only [List.mem_cons, List.not_mem_nil, or_false] at hx
        rcases hx with e | e | e | e | e | e | e
        all_goals first
          | (cases e; done)
          | (cases e
             exact .tup (sqT_updL ht3 hR3))
      | tup h => exact .tup (sqT_updL h hR3)
    have hR4 : (upd H3 R (.lst ((rows.map V.int).set d.toNat x))) R = some (.lst ((rows.map V.int).set d.toNat x)) := upd_same
    generalize upd H3 R (.lst ((rows.map V.int).set d.toNat x)) = H4 at *
    have sR4 : Sq K H4 R ((rows.map V.int).set d.toNat x) := sqA_of hR4
    walk_at "go"
    refine w_dec (fun e => ?_) (fun e => ?_)
    · walk_at "go"
      intro p H5 np g5 h5
      walk_at "go"
      exact q1 _ H5 (g4.trans (g5 T)) ⟨p, .ref R, _, d.toNat, rfl, sqT_of (by rw [ed]; exact h5), Gr.rowsArg (g5 T) (rowsArg_set sR4 hl kx k2), hw⟩
    · walk_at "go"
      intro l H5 g5 h5
      walk_at "go"
      intro p H6 np g6 h6
      walk_at "go"
      exact q1 _ H6 ((g4.trans (g5 T)).trans (g6 T)) ⟨p, .ref l, _, d.toNat, rfl, sqT_of (by rw [ed]; exact h6), Gr.rowsArg (g6 T) (rowsArg_set (.inr h5) hl ((g5 T).kd kx) k2), hw⟩
  -- the rows stand at R
  have fin : ∀ (R : Addr) (H1 : Hp) (rows : List Int) (Q1 : V → Hp → Prop), (∀ v H', Gr T H H' → Bent K H' v → Q1 v H') → Gr T H H1 → H R = none → Jar K H1 J → H1 R = some (.lst (rows.map V.int)) → Part rows → rows.sum ≤ 99 → 0 < rows.length → ∀ (x y u v : Option V),
      (tSeq (tAsg (tCall (spDraw K) [] E0 (tCons (tVar 0) (tCons (tCB (uLen K) (tCons (tVar 2) tNil)) tNil))) (gName 3))
  (tSeq (tAsg (tCall (spDraw K) [] E0 (tCons (tVar 0) (tCons (tC (.int 4)) tNil))) (gName 4))
  (tSeq (tIfS (tAnd (tTest (tOp (uEq K) (tVar 4) (tC (.int 0)))) (tTest (tOp qGt (tVar 3) (tC (.int 0))))) (tSeq (tAsg (tOp (uAdd K) (tOp (uAdd K) (tOp (uIx K) (tVar 2) (tOp qSub (tVar 3) (tC (.int 1)))) (tC (.int 1))) (tCall (spDraw K) [] E0 (tCons (tVar 0) (tCons (tC (.int 2)) tNil)))) (gSub (tVar 2) (tVar 3) rSetL))
  (tRet (tTup (tCons (tCB (uTup K) (tCons (tVar 2) tNil)) (tCons (tVar 3) tNil))))) tNext)
  (tSeq (tIfS (tTest (tOp (uEq K) (tVar 4) (tC (.int 1)))) (tSeq (tAsg (tLc (iSeq K (tVar 2)) (gName 6) tYes (tCB (uStr) (tCons (tVar 6) tNil)) [6]) (gName 5))
  (tSeq (tAsg (tCall (spPick K) [] E0 (tCons (tVar 0) (tCons (tLst (tCons (tC (.str "0")) (tCons (tC (.str "x")) (tCons (tC (.str "-1")) (tCons (tC (.str "None")) tNil))))) tNil))) (gSub (tVar 5) (tVar 3) rSetL))
  (tRet (tTup (tCons (tM1 (qJoin K) (tC (.str " ")) (tVar 5)) (tCons (tVar 3) tNil)))))) tNext)
  (tSeq (tAsg (tCall (spPick K) [] E0 (tCons (tVar 0) (tCons (tLst (tCons (tC (.int 0)) (tCons (tOp qSub (tC (.int 0)) (tC (.int 1))) (tCons (tC (.bl true)) (tCons (tC .non) (tCons (tC (.str "1")) (tCons (tTup (tCons (tC (.int 1)) tNil)) (tCons (tOp qSub (tC (.int 0)) (tC (.int 7))) tNil)))))))) tNil))) (gSub (tVar 2) (tVar 3) rSetL))
  (tRet (tTup (tCons (tIf (tTest (tOp (uEq K) (tVar 4) (tC (.int 2)))) (tVar 2) (tCB (uTup K) (tCons (tVar 2) tNil))) (tCons (tVar 3) tNil))))))))) (E_ Q1) [some (.ref J), some (.ref a), some (.ref R), x, y, u, v] H1 := by
    intro R H1 rows Q1 q1 gH nR hj1 hR hpr hzr h0 x y u v
    have hsR : Sq K H1 R (rows.map V.int) := sqA_of hR
    have hl := len_le_sum hpr.pos
    have ht := mem_le_sum hpr.nn
    walk_at "go"
    refine ⟨J, _, rfl, hj1, by omega, by omega, fun d d0 d1 => ?_⟩
    have hd : d.toNat < rows.length := by omega
    have ed : ((d.toNat : Nat) : Int) = d := by omega
    have mn := fun w u v => menu R H1 rows Q1 d w u v q1 gH nR hj1 hR hpr (by omega) d0 d1
    walk_at "s"
    walk_at "s"
    walk_at "go"
    refine ⟨J, 4, rfl, hj1, by omega, by omega, fun w w0 w1 => ?_⟩
    walk_at "s"
    walk_at "s"
    walk_at "s"
    walk_at "go"
    have two : ∀ {A B : Prop}, (w = 1 → A) → (w ≠ 1 → B) → if decide (w = 1) = true then A else B := fun h1 h2 => w_dec h1 h2
    refine w_dec (fun e => ?_) (fun e => ?_)
    · walk_at "go"
      refine w_dec (fun e2 => ?_) (fun e2 => ?_)
      · -- rows[at] = rows[at - 1] + 1 + ..
        walk_at "go"
        refine w_ixZ hsR (by omega) (by omega) ?_
        walk_at "go"
        refine ⟨J, 2, rfl, hj1, by omega, by omega, fun c c0 c1 => ?_⟩
        walk_at "go"
        refine w_set hR d0 (by rw [List.length_map]; exact d1) ?_
        have hw := wrong_set hpr hd (x := .int (rows.getD (d - 1).toNat 0 + 1 + c)) (by
          rw [if_neg (by omega)]
          have e3 : (d - 1).toNat = d.toNat - 1 := by omega
          rw [e3]
          exact .inr ⟨_, rfl, by omega⟩)
        have g4 : Gr T H (upd H1 R (.lst ((rows.map V.int).set d.toNat (.int (rows.getD (d - 1).toNat 0 + 1 + c))))) := gH.set nR hR
        have hR4 : (upd H1 R (.lst ((rows.map V.int).set d.toNat (.int (rows.getD (d - 1).toNat 0 + 1 + c))))) R = some (.lst ((rows.map V.int).set d.toNat (.int (rows.getD (d - 1).toNat 0 + 1 + c)))) := upd_same
        generalize upd H1 R (.lst ((rows.map V.int).set d.toNat (.int (rows.getD (d - 1).toNat 0 + 1 + c)))) = H4 at *
        have sR4 : Sq K H4 R ((rows.map V.int).set d.toNat (.int (rows.getD (d - 1).toNat 0 + 1 + c))) := sqA_of hR4
        walk_at "go"
        intro l H5 g5 h5
        walk_at "go"
        intro p H6 np g6 h6
        walk_at "go"
        exact q1 _ H6 ((g4.trans (g5 T)).trans (g6 T)) ⟨p, .ref l, _, d.toNat, rfl, sqT_of (by rw [ed]; exact h6), Gr.rowsArg (g6 T) (rowsArg_set (.inr h5) (by omega) (.int _) (fun z e => by cases e)), hw⟩
      · walk_at "go"
        refine w_dec (fun e3 => by omega) (fun e3 => ?_)
        exact mn _ _ _
    · walk_at "go"
      refine w_dec (fun e3 => ?_) (fun e3 => ?_)
      · -- a word
        walk_at "go"
        refine lc_I (T := T) hsR (fun _ => true) (fun n => .str (dec n)) (by omega) (fun _ => rfl) (fun m hm H5 g5 Yes No hy hno => ?_) (fun D H2 g2 nD h2 => ?_)
        · walk_at "go"
          have h1 := hpr.pos m hm
          have h2 := ht m hm
          refine w_strI ?_ ?_
          · have : m.natAbs.log2 ≤ m.natAbs := Nat.log2_le_self _
            omega
          · exact hy rfl _ (Gr.refl _ _)
        · have e1 : H2 D = some (.lst ((rows.map dec).map V.str)) := by
            rw [h2, List.filter_eq_self.mpr (fun _ _ => rfl), List.map_map] <;> rfl
          walk_at "go"
          intro m H3 nm g3 h3
          walk_at "go"
          have gg : Gr T H1 H3 := g2.trans (g3 T)
          refine ⟨J, m, _, rfl, gg.jar hj1, sqA_of h3, Nat.zero_lt_succ _, Nat.le_of_ble_eq_true rfl, fun x hx => ?_⟩
          obtain ⟨z, rfl, hz1, hz2, hz3, hz4, hz5⟩ : ∃ z : Str, x = .str z ∧ z.length ≤ 10 ∧ 32 ∉ TL.tl z ∧ z ≠ "bare" ∧ (isDig z = true → (PySem.intText? z).isSome = true) ∧ ∀ ah, BadIn ah (worth z) := by
            simp only [List.mem_cons, List.not_mem_nil, or_false] at hx
            rcases hx with rfl | rfl | rfl | rfl
            · exact ⟨_, rfl, by decide, by decide +kernel, by decide +kernel, by decide +kernel, fun _ => .inl (show ((PySem.intText? "0").getD 0) < 1 by decide +kernel)⟩
            · exact ⟨_, rfl, by decide, by decide +kernel, by decide +kernel, by decide +kernel, fun _ => by rw [show worth "x" = .str "x" by unfold worth; rw [if_neg (by decide +kernel)]]; trivial⟩
            · exact ⟨_, rfl, by decide, by decide +kernel, by decide +kernel, by decide +kernel, fun _ => by rw [show worth "-1" = .str "-1" by unfold worth; rw [if_neg (by decide +kernel)]]; trivial⟩
            · exact ⟨_, rfl, by decide, by decide +kernel, by decide +kernel, by decide +kernel, fun _ => by rw [show worth "None" = .str "None" by unfold worth; rw [if_neg (by decide +kernel)]]; trivial⟩
          have hD3 := (g3 T).lst e1
          walk_at "go"
          refine w_set hD3 d0 (by rw [List.length_map, List.length_map]; exact d1) ?_
          have nDH : H D = none := gH.free _ nD
          have g4 : Gr T H (upd H3 D (.lst (((rows.map dec).map V.str).set d.toNat (.str z)))) := (gH.trans gg).set nDH hD3
          have hD4 : (upd H3 D (.lst (((rows.map dec).map V.str).set d.toNat (.str z)))) D = some (.lst ((((rows.map dec).set d.toNat z)).map V.str)) := by rw [upd_same, List.map_set]
          generalize upd H3 D (.lst (((rows.map dec).map V.str).set d.toNat (.str z))) = H4 at *
          have hwd : ∀ p ∈ (rows.map dec).set d.toNat z, p.length ≤ 10 ∧ 32 ∉ TL.tl p ∧ p ≠ "bare" ∧ (isDig p = true → (PySem.intText? p).isSome = true) := fun p hp2 => by
            rcases List.mem_or_eq_of_mem_set hp2 with h1 | h1
            · obtain ⟨n, hn, rfl⟩ := List.mem_map.mp h1
              obtain ⟨d1, d2, d3, d4, d5⟩ := dec_ok (n := n) (by have := hpr.pos n hn; omega) (by have := ht n hn; omega)
              refine ⟨by omega, d4, fun z => ?_, fun _ => by rw [d2] <;> rfl⟩
              rw [z] at d5
              exact d5 (by decide +kernel)
            · rw [h1]
              exact ⟨hz1, hz2, hz3, hz4⟩
          have ll : ((rows.map dec).set d.toNat z).length = rows.length := by rw [List.length_set, List.length_map]
          obtain ⟨l1, l2⟩ := join_len (fun p hp => (hwd p hp).1) (show ((rows.map dec).set d.toNat z).length ≤ 1000 by rw [ll]; omega)
          have e2 : (" " : Str).length = 1 := by decide
          walk_at "go"
          refine ⟨" ", D, _, rfl, rfl, .inl (sqL_of hD4), by rw [e2, ll]; omega, ?_⟩
          walk_at "go"
          intro p H5 np g5 h5
          walk_at "go"
          have ra := rowsArg_join (K := K) (H := H5) (parts := (rows.map dec).set d.toNat z) (fun e => by
            have := congrArg List.length e
            rw [ll] at this
            have h9 : rows.length = 0 := this
            omega) (by rw [ll]; omega) hwd
          have ew : ((rows.map dec).set d.toNat z).map worth = (rows.map V.int).set d.toNat (worth z) := by
            rw [List.map_set, List.map_map]
            congr 1
            refine List.map_congr_left fun n hn => ?_
            exact worth_dec (by have := hpr.pos n hn; omega) (by have := ht n hn; omega)
          rw [ew] at ra
          exact q1 _ H5 (g4.trans (g5 T)) ⟨p, _, _, d.toNat, rfl, sqT_of (by rw [ed]; exact h5), ra, wrong_set hpr hd (hz5 _)⟩
      · exact mn _ _ _
  walk_at "s"
  walk_at "go"
  refine w_dec (fun e => ?_) (fun e => ?_)
  · walk_at "go"
    intro R H1 nR g1 h1
    exact fin R H1 lam Q q (g1 T) nR ((g1 T).jar hj) h1 hp hz (by omega) _ _ _ _
  · walk_at "go"
    intro R H1 nR g1 h1
    exact fin R H1 [2] Q q (g1 T) nR ((g1 T).jar hj) h1 ⟨List.pairwise_singleton _ _, by simp⟩ (by decide) (by decide) _ _ _ _
def spSpot (K : PySem.W.Frag) : Sp := fun vs H Q _ => ∃ (J a : Addr) (lam : List Int), vs = [.ref J, .ref a] ∧ Jar K H J ∧ Sq K H a (lam.map V.int) ∧ Part lam ∧ lam.sum ≤ 50 ∧ ∀ d : Int, d.natAbs ≤ 60 → Q (.int d) H
theorem rd_law_spot : ∀ vs H Q (E : XK), spSpot K vs H Q E → t__law_spot K (spDraw K) (spReach K) (E_ Q) (start ["jar", "lam"] vs) H := by
  intro vs H Q E h
  obtain ⟨J, a, lam, rfl, hj, hs, hp, hz, q⟩ := h
  have hl := len_le_sum hp.pos
  have ht := mem_le_sum hp.nn
  unfold t__law_spot
  walk_at "go"
  refine ⟨J, 6, rfl, hj, by omega, by omega, fun d d0 d1 => ?_⟩
  walk_at "go"
  refine w_dec (fun e => ?_) (fun e => ?_)
  · walk_at "go"
    exact ⟨J, _, _, rfl, hj, by omega, by omega, fun c c0 c1 => q c (by omega)⟩
  · walk_at "go"
    refine w_dec (fun e2 => ?_) (fun e2 => ?_)
    · walk_at "go"
      refine w_ixZ hs (by decide) e2 ?_
      have hg := hp.get (i := 0) (by omega)
      have hm : lam.getD 0 0 ≤ lam.sum := by
        rw [List.getD_eq_getElem?_getD, List.getElem?_eq_getElem (by omega)]
        exact ht _ (List.getElem_mem _)
      have e3 : lam.getD (0 : Int).toNat 0 = lam.getD 0 0 := rfl
      rw [e3]
      walk_at "go"
      exact ⟨J, _, _, rfl, hj, by omega, by omega, fun c c0 c1 => q c (by omega)⟩
    · walk_at "go"
      exact ⟨J, _, _, rfl, hj, by omega, by omega, fun c c0 c1 => q c (by omega)⟩
end K20
end
section
set_option Elab.async false
set_option linter.all false
set_option maxRecDepth 100000
set_option maxHeartbeats 4000000
namespace K20
open PySem PySem.Spec PyProof.Rows L2 LamX U Evl L2H HotX LHot LX
/-! ### steps, by program -/
local macro_rules | `(tactic| walk_at "kp") => `(tactic| first
  | assumption
  | exact sqA_of (by assumption)
  | exact sqB_of (by assumption)
  | exact sqL_of (by assumption)
  | exact sqT_of (by assumption)
  | exact Or.inl (by assumption)
  | exact Or.inr (by assumption)
  | exact Gr.refl _ _
  | exact GrA.gr (by assumption)
  | (apply Gr.trans ?_ (by first | assumption | exact GrA.gr (by assumption)); walk_at "kp")
  | (apply Gr.xd; (first | assumption | exact GrA.gr (T := []) (by assumption)); walk_at "kp")
  | (apply Gr.sq; (first | assumption | exact GrA.gr (T := []) (by assumption)); walk_at "kp")
  | (apply Gr.sqL; (first | assumption | exact GrA.gr (T := []) (by assumption)); walk_at "kp")
  | (apply Gr.sqT; (first | assumption | exact GrA.gr (T := []) (by assumption)); walk_at "kp")
  | (apply Gr.lst; (first | assumption | exact GrA.gr (T := []) (by assumption)); walk_at "kp")
  | (apply Gr.tup; (first | assumption | exact GrA.gr (T := []) (by assumption)); walk_at "kp"))
local macro_rules | `(tactic| walk_at "s") => `(tactic| first
  | with_reducible first
    | refine w_seq ?_ | refine w_asg ?_ | refine w_gname ?_ | refine w_if ?_ | refine w_ret ?_ | refine w_next ?_ | refine w_drop ?_ | refine w_retN ?_ | refine w_brk ?_ | refine w_cont ?_ | refine w_gsub ?_
    | refine w_op ?_ | refine w_c ?_ | refine w_nil ?_ | refine w_cons ?_ | refine w_cb ?_ | refine w_un ?_
    | refine w_I0 ?_ | refine w_U ?_ | refine w_add ?_ | refine w_test ?_ | refine w_tB ?_ | refine w_tr ?_ | refine w_exn ?_ | refine w_trn ?_ | refine w_and ?_ | refine w_or ?_ | refine w_not ?_ | refine w_andV ?_ | refine w_orV ?_ | refine w_notV ?_ | refine w_ifE ?_
    | refine w_eqI ?_ | refine w_neI ?_ | refine w_eqS ?_ | refine w_neS ?_ | refine w_eqB ?_ | refine w_neB ?_ | refine w_isNo ?_ | refine w_notN ?_
    | refine w_call0 ?_ | refine w_tupK ?_ | refine w_lstK ?_ | refine w_bm ?_ | refine w_nop ?_ | refine w_part ?_ | refine w_exi ?_ | refine w_sl ?_
    | refine w_lcS ?_ | refine w_lcR1 ?_ | refine w_lcR2 ?_ | refine w_lcE ?_ | refine w_frS ?_ | refine w_frR1 ?_ | refine w_frR2 ?_ | refine w_frE ?_ | refine w_frT ?_
    | refine w_tYes ?_ | refine w_lcH ?_ | refine w_callE ?_ | refine w_iteD ?_ | refine w_iteND ?_ | refine w_raise ?_ | refine raK1 ?_ | refine raK2 ?_ | refine w_iteNT ?_ | refine w_iteNF ?_ | refine w_ckw ?_ | refine w_callN ?_ | refine w_m1 ?_ | refine w_yes1 ?_ | refine w_iteT ?_ | refine w_iteF ?_ | refine w_abs ?_ | refine w_max2 ?_ | refine w_max3 ?_ | refine w_min2 ?_ | refine w_intI ?_
  | (refine w_var (by with_unfolding_all rfl) ?_)
  | (refine w_lenI (by walk_at "kp") ?_)
  | (refine w_len (by walk_at "kp") ?_)
  | (refine w_sum (by walk_at "kp") ?_)
  | (with_reducible refine lstK ?_ ?_; exact Nat.le_of_ble_eq_true rfl)
  | (with_reducible refine tupK ?_ ?_; exact Nat.le_of_ble_eq_true rfl)
  | (refine w_list (by walk_at "kp") ?_)
  | (refine w_tuple (by walk_at "kp") ?_)
  | (refine w_slI (by walk_at "kp") ?_)
  | (refine w_inI (by walk_at "kp") ?_)
  | (refine w_notInI (by walk_at "kp") ?_))
local macro_rules | `(tactic| walk_at "go") => `(tactic| repeat' (walk_at "s"))
variable {K : PySem.W.Frag} {T : List (Addr × Str)}
def allMarks : List Str := ["BadNumber", "BadSum", "BadQuotient", "BadLandscape", "BadWell", "BadWall", "BadShape", "BadRoll", "BadOperator", "BadSymbol", "BadStep", "BadPaper", "BadName", "BadScript", "Barred", "Unlike", "HasResidue", "NotKept", "TooMany", "NoSuch", "Ended"]
/-- of which classes the handled exception is, by the written part -/
def MarksB (K : PySem.W.Frag) (D : Addr) (word : Str) : Prop := ∀ c ∈ allMarks, LE.isB K D (.ref (He.ga K c)) (decide (c = word)) = true
def tMark (K : PySem.W.Frag) (D a : Addr) (d : Option Addr) (c : Str) : TE := tTup (tCons (tC (.str c)) (tCons (tCB (rIsX K D a d) (tCons (tVar 0) (tCons (tC (.ref (He.ga K c))) tNil))) tNil))
def tMarks (K : PySem.W.Frag) (D a : Addr) (d : Option Addr) : List Str → TA
  | [] => tNil
  | c :: r => tCons (tMark K D a d c) (tMarks K D a d r)
def marksOf (word : Str) (cs : List Str) : List (Str × Bool) := cs.map fun c => (c, decide (c = word))
theorem w_marks {D a dd : Addr} {fs : List (Str × V)} {word : Str} {σ : L2.St} (h0 : σ[0]? = some (some (.ref a))) : ∀ (cs : List Str) (H : Hp) (QA : List V → Hp → Prop), (∀ c ∈ cs, LE.isB K D (.ref (He.ga K c)) (decide (c = word)) = true) → H dd = some (.xd fs) →
    (∀ xs H', Gr T H H' → SbAll K H' xs (marksOf word cs) → QA xs H') → tMarks K D a (some dd) cs σ H QA
  | [], H, QA, _, _, q => q [] H (Gr.refl _ _) .nil
  | c :: r, H, QA, hm, hd, q => by
    show tCons (tMark K D a (some dd) c) (tMarks K D a (some dd) r) σ H QA
    refine w_cons ?_
    show tTup _ σ H _
    refine w_tupK (w_cons (w_c (w_cons (w_cb (w_cons (w_var h0 (w_cons (w_c (w_nil ?_))))))))) 
    refine w_isX (hm c (List.mem_cons_self ..)) hd (w_nil (tupK (Nat.le_of_ble_eq_true rfl) fun p H' np g h => ?_))
    refine w_marks h0 r H' _ (fun x hx => hm x (List.mem_cons_of_mem _ hx)) ((g T).xd hd) fun xs H2 g2 hs => q _ H2 ((g T).trans g2) (.cons ⟨p, rfl, g2.sqT (sqT_of h)⟩ hs)
def spMarks (K : PySem.W.Frag) (T : List (Addr × Str)) : SpE := fun a c d vs H Q _ => vs = [.ref a] ∧ ∃ D dd fs word, c = .ref D ∧ LE.Own K D ∧ d = some dd ∧ H dd = some (.xd fs) ∧ MarksB K D word ∧ ∀ l H', Gr T H H' → H' l = some (.lst (((marksOf word allMarks).filter fun q => q.2).map fun q => .str q.1)) → Q (.ref l) H'
theorem rd_law_marks : ∀ a D d vs H Q (E : XK), spMarks K T a (.ref D) d vs H Q E → t__law_marks K D a d (E_ Q) (start ["e", "marks", "word", "yes"] vs) H := by
  intro a D d vs H Q E h
  obtain ⟨rfl, D', dd, fs, word, e, O, rfl, hd, M, q⟩ := h
  cases e
  show (tSeq (tAsg (tLst (tMarks K D a (some dd) allMarks)) (gName 1)) (tRet (tLc (iList K (tVar 1)) (gTup K 2 (gCons (gName 2) (gCons (gName 3) gNil))) (tTr K (tVar 3)) (tVar 2) [2, 3]))) (E_ Q) [some (.ref a), none, none, none] H
  refine w_seq (w_asg (w_lstK (w_marks (T := T) rfl allMarks H _ M hd fun xs HA gA hs => lstK ?_ fun l HL nL gL hL => ?_)))
  · have : xs.length = (marksOf word allMarks).length := Paired.length hs
    rw [this]
    exact Nat.le_of_ble_eq_true rfl
  have hs2 := Gr.sbs (gL T) hs
  refine w_gname (w_ret (w_lcH (w_var rfl ?_)))
  refine lc_SB (T := T) (sqL_of hL) hs2 (fun q => q.2) (fun q => .str q.1) (Nat.le_of_ble_eq_true rfl) (fun _ _ => rfl) (fun q hq H2 g2 Yes No hy hn => ?_) (fun D2 H2 g2 nD h2 => ?_)
  · walk_at "go"
    refine w_bool (fun e => ?_) (fun e => ?_)
    · walk_at "go"
      exact hy e _ (Gr.refl _ _)
    · exact hn e _ (Gr.refl _ _)
  · exact q D2 H2 ((gA.trans (gL T)).trans g2) h2
end K20
end
section
set_option Elab.async false
set_option linter.all false
set_option maxRecDepth 100000
set_option maxHeartbeats 4000000
namespace K20
open PySem PySem.Spec PyProof.Rows L2 LamX U Evl L2H HotX LHot LX
/-! ### steps, by program -/
local macro_rules | `(tactic| walk_at "kp") => `(tactic| first
  | assumption
  | exact sqA_of (by assumption)
  | exact sqB_of (by assumption)
  | exact sqL_of (by assumption)
  | exact sqT_of (by assumption)
  | exact Or.inl (by assumption)
  | exact Or.inr (by assumption)
  | exact Gr.refl _ _
  | exact GrA.gr (by assumption)
  | (apply Gr.trans ?_ (by first | assumption | exact GrA.gr (by assumption)); walk_at "kp")
  | (apply Gr.xd; (first | assumption | exact GrA.gr (T := []) (by assumption)); walk_at "kp")
  | (apply Gr.sq; (first | assumption | exact GrA.gr (T := []) (by assumption)); walk_at "kp")
  | (apply Gr.sqL; (first | assumption | exact GrA.gr (T := []) (by assumption)); walk_at "kp")
  | (apply Gr.sqT; (first | assumption | exact GrA.gr (T := []) (by assumption)); walk_at "kp")
  | (apply Gr.lst; (first | assumption | exact GrA.gr (T := []) (by assumption)); walk_at "kp")
  | (apply Gr.tup; (first | assumption | exact GrA.gr (T := []) (by assumption)); walk_at "kp"))
local macro_rules | `(tactic| walk_at "s") => `(tactic| first
  | with_reducible first
    | refine w_seq ?_ | refine w_asg ?_ | refine w_gname ?_ | refine w_if ?_ | refine w_ret ?_ | refine w_next ?_ | refine w_drop ?_ | refine w_retN ?_ | refine w_brk ?_ | refine w_cont ?_ | refine w_gsub ?_
    | refine w_op ?_ | refine w_c ?_ | refine w_nil ?_ | refine w_cons ?_ | refine w_cb ?_ | refine w_un ?_
    | refine w_I0 ?_ | refine w_U ?_ | refine w_add ?_ | refine w_test ?_ | refine w_tB ?_ | refine w_tr ?_ | refine w_exn ?_ | refine w_trn ?_ | refine w_and ?_ | refine w_or ?_ | refine w_not ?_ | refine w_andV ?_ | refine w_orV ?_ | refine w_notV ?_ | refine w_ifE ?_
    | refine w_eqI ?_ | refine w_neI ?_ | refine w_eqS ?_ | refine w_neS ?_ | refine w_eqB ?_ | refine w_neB ?_ | refine w_isNo ?_ | refine w_notN ?_
    | refine w_call0 ?_ | refine w_tupK ?_ | refine w_lstK ?_ | refine w_bm ?_ | refine w_nop ?_ | refine w_part ?_ | refine w_exi ?_ | refine w_sl ?_
    | refine w_lcS ?_ | refine w_lcR1 ?_ | refine w_lcR2 ?_ | refine w_lcE ?_ | refine w_frS ?_ | refine w_frR1 ?_ | refine w_frR2 ?_ | refine w_frE ?_ | refine w_frT ?_
    | refine w_tYes ?_ | refine w_lcH ?_ | refine w_callE ?_ | refine w_iteD ?_ | refine w_iteND ?_ | refine w_raise ?_ | refine raK1 ?_ | refine raK2 ?_ | refine w_iteNT ?_ | refine w_iteNF ?_ | refine w_ckw ?_ | refine w_callN ?_ | refine w_m1 ?_ | refine w_yes1 ?_ | refine w_iteT ?_ | refine w_iteF ?_ | refine w_abs ?_ | refine w_max2 ?_ | refine w_max3 ?_ | refine w_min2 ?_ | refine w_intI ?_
  | (with_reducible apply w_var; with_unfolding_all rfl)
  | (with_reducible apply w_lenI; walk_at "kp")
  | (with_reducible apply w_len; walk_at "kp")
  | (with_reducible apply w_sum; walk_at "kp")
  | (with_reducible refine lstK ?_ ?_; exact Nat.le_of_ble_eq_true rfl)
  | (with_reducible refine tupK ?_ ?_; exact Nat.le_of_ble_eq_true rfl)
  | (with_reducible apply w_list; walk_at "kp")
  | (with_reducible apply w_tuple; walk_at "kp")
  | (with_reducible apply w_slI; walk_at "kp")
  | (with_reducible apply w_inI; walk_at "kp")
  | (with_reducible apply w_notInI; walk_at "kp"))
local macro_rules | `(tactic| walk_at "go") => `(tactic| repeat' (walk_at "s"))
variable {K : PySem.W.Frag} {T : List (Addr × Str)}
/-- what the written part says of an exception class of the package's refusals -/
structure RefB (K : PySem.W.Frag) (D : Addr) (word : Str) : Prop where
  own : LE.Own K D
  marks : MarksB K D word
  ref : LE.isB K D (.ref (He.ga K "Refused")) true = true
  val : LE.isB K D (.type "ValueError") true = true
  look : LE.isB K D (.type "LookupError") false = true
  run : LE.isB K D (.type "RuntimeError") false = true
/-- the list that _law_fault tells -/
inductive FaultOf (K : PySem.W.Frag) : Addr → List (Str × V) → List V → Prop
  | shape {D : Addr} {fs : List (Str × V)} {v : V} (r : RefB K D "BadShape") (no : PySem.W.findIn K (.ref D) "at" = some none) (l : fs.lookup ("at" : Str) = some v) : FaultOf K D fs [.str "fault", .str "BadShape", v]
  | many {D : Addr} {fs : List (Str × V)} {v u : V} (r : RefB K D "TooMany") (no : PySem.W.findIn K (.ref D) "what" = some none) (no2 : PySem.W.findIn K (.ref D) "count" = some none) (l : fs.lookup ("what" : Str) = some v) (l2 : fs.lookup ("count" : Str) = some u) : FaultOf K D fs [.str "fault", .str "TooMany", v, u]
def spFault (K : PySem.W.Frag) (T : List (Addr × Str)) : SpE := fun a c d vs H Q _ => vs = [.ref a] ∧ ∃ D dd fs items, c = .ref D ∧ d = some dd ∧ H dd = some (.xd fs) ∧ FaultOf K D fs items ∧ ∀ l H', Gr T H H' → H' l = some (.lst items) → Q (.ref l) H'
theorem w_neB4 {H : Hp} {p q : Addr} {a b c d : Bool} {Q : VK} (h1 : SqL K H p [.bl a, .bl b, .bl c, .bl d]) (h2 : SqL K H q [.bl a, .bl b, .bl c, .bl d]) (k : Q (.bl false) H) : uNe K (.ref p) (.ref q) H Q := by
  refine ⟨.list [.bool a, .bool b, .bool c, .bool d], .list [.bool a, .bool b, .bool c, .bool d], .lst h1 (.cons (.bl a) (.cons (.bl b) (.cons (.bl c) (.cons (.bl d) .nil)))), .lst h2 (.cons (.bl a) (.cons (.bl b) (.cons (.bl c) (.cons (.bl d) .nil)))), ?_, ?_, ?_⟩
  · cases a <;> cases b <;> cases c <;> cases d <;> decide
  · cases a <;> cases b <;> cases c <;> cases d <;> decide
  · have e : PyData.eqv (.list [.bool a, .bool b, .bool c, .bool d]) (.list [.bool a, .bool b, .bool c, .bool d]) = true := by cases a <;> cases b <;> cases c <;> cases d <;> decide
    rw [e]
    exact k
theorem w_inStrs {H : Hp} {p : Addr} {x : Str} {ws : List V} {b : Bool} {Q : VK} (h : SqL K H p ws) (hf : ws.all flatV = true) (e : inV (.str x) ws = b) (q : Q (.bl b) H) : uIn K false (.str x) (.ref p) H Q := ⟨p, ws, rfl, .inl h, rfl, hf, by rw [if_neg Bool.false_ne_true, e]; exact q⟩
theorem rd_law_fault : ∀ a D d vs H Q (E : XK), spFault K T a (.ref D) d vs H Q E → t__law_fault K D a d (spMarks K T) (E_ Q) (start ["e", "words", "word", "bases", "due"] vs) H := by
  intro a D d vs H Q E h
  obtain ⟨rfl, D', dd, fs, items, e, rfl, hd, hf, q⟩ := h
  cases e
  unfold t__law_fault
  walk_at "go"
  cases hf with
  | shape r no l =>
    refine ⟨rfl, D, dd, fs, "BadShape", rfl, r.own, rfl, hd, r.marks, fun w H1 g1 h1 => ?_⟩
    have e1 : ((marksOf "BadShape" allMarks).filter fun q => q.2).map (fun q => V.str q.1) = [.str "BadShape"] := by decide +kernel
    rw [e1] at h1
    have s1 : Sq K H1 w [.str "BadShape"] := sqA_of h1
    walk_at "go"
    refine w_yes (by decide +kernel) ?_
    walk_at "go"
    refine w_ix s1 (by decide) rfl ?_
    walk_at "go"
    refine w_isX r.ref (g1.xd hd) ?_
    walk_at "go"
    refine w_isXT r.val (g1.xd hd) ?_
    walk_at "go"
    refine w_isXT r.look (g1.xd hd) ?_
    walk_at "go"
    refine w_isXT r.run (g1.xd hd) ?_
    walk_at "go"
    intro bs H2 n2 g2 h2
    walk_at "go"
    refine w_no (by decide +kernel) ?_
    walk_at "go"
    refine w_no (by decide +kernel) ?_
    walk_at "go"
    intro du H3 n3 g3 h3
    walk_at "go"
    refine w_neB4 (sqL_of ((g3 T).lst h2)) (sqL_of h3) ?_
    walk_at "go"
    refine w_no (by decide +kernel) ?_
    walk_at "go"
    intro l4 H4 n4 g4 h4
    walk_at "go"
    refine w_inStrs (sqL_of h4) rfl (b := false) (by decide +kernel) ?_
    walk_at "go"
    intro l5 H5 n5 g5 h5
    walk_at "go"
    refine w_inStrs (sqL_of h5) rfl (b := false) (by decide +kernel) ?_
    walk_at "go"
    intro l6 H6 n6 g6 h6
    walk_at "go"
    refine w_inStrs (sqL_of h6) rfl (b := false) (by decide +kernel) ?_
    walk_at "go"
    have hd6 : H6 dd = some (.xd fs) := (g6 T).xd ((g5 T).xd ((g4 T).xd ((g3 T).xd ((g2 T).xd (g1.xd hd)))))
    refine w_xG no ?_
    walk_at "go"
    refine ⟨rfl, dd, fs, _, rfl, hd6, l, ?_⟩
    walk_at "go"
    intro l7 H7 n7 g7 h7
    exact q l7 H7 (((((g1.trans (g2 T)).trans (g3 T)).trans (g4 T)).trans (g5 T)).trans ((g6 T).trans (g7 T))) h7
  | many r no no2 l l2 =>
    refine ⟨rfl, D, dd, fs, "TooMany", rfl, r.own, rfl, hd, r.marks, fun w H1 g1 h1 => ?_⟩
    have e1 : ((marksOf "TooMany" allMarks).filter fun q => q.2).map (fun q => V.str q.1) = [.str "TooMany"] := by decide +kernel
    rw [e1] at h1
    have s1 : Sq K H1 w [.str "TooMany"] := sqA_of h1
    walk_at "go"
    refine w_yes (by decide +kernel) ?_
    walk_at "go"
    refine w_ix s1 (by decide) rfl ?_
    walk_at "go"
    refine w_isX r.ref (g1.xd hd) ?_
    walk_at "go"
    refine w_isXT r.val (g1.xd hd) ?_
    walk_at "go"
    refine w_isXT r.look (g1.xd hd) ?_
    walk_at "go"
    refine w_isXT r.run (g1.xd hd) ?_
    walk_at "go"
    intro bs H2 n2 g2 h2
    walk_at "go"
    refine w_no (by decide +kernel) ?_
    walk_at "go"
    refine w_no (by decide +kernel) ?_
    walk_at "go"
    intro du H3 n3 g3 h3
    walk_at "go"
    refine w_neB4 (sqL_of ((g3 T).lst h2)) (sqL_of h3) ?_
    walk_at "go"
    refine w_no (by decide +kernel) ?_
    walk_at "go"
    intro l4 H4 n4 g4 h4
    walk_at "go"
    refine w_inStrs (sqL_of h4) rfl (b := true) (by decide +kernel) ?_
    walk_at "go"
    have hd4 : H4 dd = some (.xd fs) := (g4 T).xd ((g3 T).xd ((g2 T).xd (g1.xd hd)))
    refine w_xG no ?_
    walk_at "go"
    refine ⟨rfl, dd, fs, _, rfl, hd4, l, ?_⟩
    walk_at "go"
    refine w_xG no2 ?_
    walk_at "go"
    refine ⟨rfl, dd, fs, _, rfl, hd4, l2, ?_⟩
    walk_at "go"
    intro l7 H7 n7 g7 h7
    exact q l7 H7 ((((g1.trans (g2 T)).trans (g3 T)).trans (g4 T)).trans (g7 T)) h7
end K20
end
section
set_option Elab.async false
set_option linter.all false
set_option maxRecDepth 100000
set_option maxHeartbeats 4000000
namespace K20
open PySem PySem.Spec PyProof.Rows L2 LamX U Evl L2H HotX LHot LX LV
/-! ### steps, by program -/
local macro_rules | `(tactic| walk_at "kp") => `(tactic| first
  | assumption
  | exact sqA_of (by assumption)
  | exact sqB_of (by assumption)
  | exact sqL_of (by assumption)
  | exact sqT_of (by assumption)
  | exact Or.inl (by assumption)
  | exact Or.inr (by assumption)
  | exact Gr.refl _ _
  | exact GrA.gr (by assumption)
  | (apply Gr.trans ?_ (by first | assumption | exact GrA.gr (by assumption)); walk_at "kp")
  | (apply Gr.xd; (first | assumption | exact GrA.gr (T := []) (by assumption)); walk_at "kp")
  | (apply Gr.sq; (first | assumption | exact GrA.gr (T := []) (by assumption)); walk_at "kp")
  | (apply Gr.sqL; (first | assumption | exact GrA.gr (T := []) (by assumption)); walk_at "kp")
  | (apply Gr.sqT; (first | assumption | exact GrA.gr (T := []) (by assumption)); walk_at "kp")
  | (apply Gr.lst; (first | assumption | exact GrA.gr (T := []) (by assumption)); walk_at "kp")
  | (apply Gr.tup; (first | assumption | exact GrA.gr (T := []) (by assumption)); walk_at "kp"))
local macro_rules | `(tactic| walk_at "s") => `(tactic| first
  | with_reducible first
    | refine w_seq ?_ | refine w_asg ?_ | refine w_gname ?_ | refine w_if ?_ | refine w_ret ?_ | refine w_next ?_ | refine w_drop ?_ | refine w_retN ?_ | refine w_brk ?_ | refine w_cont ?_ | refine w_gsub ?_
    | refine w_op ?_ | refine w_c ?_ | refine w_nil ?_ | refine w_cons ?_ | refine w_cb ?_ | refine w_un ?_
    | refine w_I0 ?_ | refine w_U ?_ | refine w_add ?_ | refine w_test ?_ | refine w_tB ?_ | refine w_tr ?_ | refine w_exn ?_ | refine w_trn ?_ | refine w_and ?_ | refine w_or ?_ | refine w_not ?_ | refine w_andV ?_ | refine w_orV ?_ | refine w_notV ?_ | refine w_ifE ?_
    | refine w_eqI ?_ | refine w_neI ?_ | refine w_eqS ?_ | refine w_neS ?_ | refine w_eqB ?_ | refine w_neB ?_ | refine w_isNo ?_ | refine w_notN ?_
    | refine w_call0 ?_ | refine w_tupK ?_ | refine w_lstK ?_ | refine w_bm ?_ | refine w_nop ?_ | refine w_part ?_ | refine w_exi ?_ | refine w_sl ?_
    | refine w_lcS ?_ | refine w_lcR1 ?_ | refine w_lcR2 ?_ | refine w_lcE ?_ | refine w_frS ?_ | refine w_frR1 ?_ | refine w_frR2 ?_ | refine w_frE ?_ | refine w_frT ?_
    | refine w_tYes ?_ | refine w_lcH ?_ | refine w_callE ?_ | refine w_iteD ?_ | refine w_iteND ?_ | refine w_raise ?_ | refine raK1 ?_ | refine raK2 ?_ | refine w_iteNT ?_ | refine w_iteNF ?_ | refine w_ckw ?_ | refine w_callN ?_ | refine w_m1 ?_ | refine w_yes1 ?_ | refine w_iteT ?_ | refine w_iteF ?_ | refine w_abs ?_ | refine w_max2 ?_ | refine w_max3 ?_ | refine w_min2 ?_ | refine w_intI ?_
  | (with_reducible apply w_var; with_unfolding_all rfl)
  | (with_reducible apply w_lenI; walk_at "kp")
  | (with_reducible apply w_len; walk_at "kp")
  | (with_reducible apply w_sum; walk_at "kp")
  | (with_reducible refine lstK ?_ ?_; exact Nat.le_of_ble_eq_true rfl)
  | (with_reducible refine tupK ?_ ?_; exact Nat.le_of_ble_eq_true rfl)
  | (with_reducible apply w_list; walk_at "kp")
  | (with_reducible apply w_tuple; walk_at "kp")
  | (with_reducible apply w_slI; walk_at "kp")
  | (with_reducible apply w_inI; walk_at "kp")
  | (with_reducible apply w_notInI; walk_at "kp"))
local macro_rules | `(tactic| walk_at "go") => `(tactic| repeat' (walk_at "s"))
section
variable {P : Program} {w : World} {K : PySem.W.Frag} {mg : Str → Option Value} {base : Heap} {T : List (Addr × Str)}
/-- a thunk, and how it ends where H stands -/
structure Ends_ (P : Program) (w : World) (K : PySem.W.Frag) (mg : Str → Option Value) (base : Heap) (k : Nat) (H : Hp) (f : Addr) (Out : VK) (Err : XK) : Prop where
  ex : ∃ sp, Thunk P w K mg base k H f sp ∧ ∀ Q2 E2, (∀ v H1, Out v H1 → Q2 v H1) → (∀ c d H1, Err c d H1 → E2 c d H1) → sp H Q2 E2
def spTried (P : Program) (w : World) (K : PySem.W.Frag) (mg : Str → Option Value) (base : Heap) (T : List (Addr × Str)) (k : Nat) : Sp := fun vs H Q _ => ∃ f Out Err, vs = [.ref f] ∧ Ends_ P w K mg base k H f Out Err ∧
  (∀ v H1, Out v H1 → ∀ l H2, Gr T H1 H2 → H2 l = some (.lst [.str "fine", v]) → Q (.ref l) H2) ∧
  (∀ c d H1, Err c d H1 → PySem.W.exmOne K c (.ref (He.ga K "Refused")) = some true ∧ ∃ D dd fs items, c = .ref D ∧ d = some dd ∧ H1 dd = some (.xd fs) ∧ FaultOf K D fs items ∧ ∀ l H2, Gr T H1 H2 → H2 l = some (.lst items) → Q (.ref l) H2)
theorem sc__law_tried : FnScope ["call", "e"] ["call"] (defScope s__law_tried) := ⟨rfl, rfl, rfl, by decide +kernel, rfl, by decide +kernel, by decide +kernel⟩
theorem fn__law_tried (G : Glob K mg) {k : Nat} (hk : 3 ≤ k) (h__law_fault : HasE P w K mg base "_law_fault" 2 ["e"] (spFault K T)) {fd : FuncData} (F : FunD K "_law_tried" "_law_tried" (defArgs s__law_tried) (defBody s__law_tried) (defScope s__law_tried) [] [] (He.ga K "_law_tried") fd) :
    Has P w K mg base "_law_tried" (k + 1) ["call"] (spTried P w K mg base T k) := by
  have nd := (sc__law_tried).nd
  refine ⟨G.g__law_tried, F.kp, fd, F.ok sc__law_tried (fun vs H Q E h => ?_) (fun cdv A outer s H vs Q E hr h => ?_), F.bindsN fun _ _ _ _ _ _ us hl => match us, hl with | [_], _ => rfl⟩
  · obtain ⟨f, _, _, rfl, _⟩ := h
    rfl
  · obtain ⟨f, Out, Err, rfl, ⟨sp, TH, hsp⟩, h1, h2⟩ := h
    refine ⟨fun D σ H => (fun W : WX => tRet (tLst (tCons (tC (.str "fine")) (tCons (tThunk P w K mg base k 0 (fun σ cls d H => W cls d σ H)) tNil)))) (wFst K (.ref (He.ga K "Refused")) 1 (fun a cls d => tRet (tCallE (spFault K T) a cls d (tCons (tVar 1) tNil))) D) D σ H, ?_, ?_⟩
    · refine pss_one (ps_try_first (tb := fun W : WX => tRet (tLst (tCons (tC (.str "fine")) (tCons (tThunk P w K mg base k 0 (fun σ cls d H => W cls d σ H)) tNil)))) (ts := fun a cls d => tRet (tCallE (spFault K T) a cls d (tCons (tVar 1) tNil))) (i := 1) rfl rfl nd rfl rfl ⟨rfl, by decide, .inl G.g_Refused⟩ (fun W pn xe tk po => ?_) (fun a oe cls d pn hz hf => ?_))
      · exact pss_one (ps_ret (pe_lst (pa_cons pe_str (pa_cons (pe_thunk hr (fun σ => L2N.passAt tk σ) rfl (Or.inl rfl)) pa_nil))))
      · exact pss_one (ps_ret (pe_callUE h__law_fault ⟨hr.dp, hr.un⟩ (by omega) (hotE_suite hz hf) (by rfl) (pa_cons (pv 1) pa_nil)))
    · refine w_ret (w_lstK (w_cons (w_c (w_cons ?_))))
      refine ⟨f, sp, rfl, TH, hsp _ _ (fun v H1 ho => ?_) fun c d H1 he => ?_⟩
      · refine w_nil (lstK (Nat.le_of_ble_eq_true rfl) fun l H2 nl g2 h3 => ?_)
        exact h1 v H1 ho l H2 (g2 T) h3
      · obtain ⟨e1, D, dd, fs, items, rfl, rfl, hd, hf, q⟩ := h2 c d H1 he
        refine ⟨e1, fun a na => w_ret (w_callE (w_cons (w_var rfl (w_nil ?_))))⟩
        exact ⟨rfl, D, dd, fs, items, rfl, rfl, hd, hf, fun l H2 g2 h3 => q l H2 g2 h3⟩
end
end K20
end
section
set_option Elab.async false
set_option linter.all false
set_option maxRecDepth 100000
set_option maxHeartbeats 4000000
namespace K20
open PySem PySem.Spec PyProof.Rows L2 LamX U Evl L2H HotX LHot LX LV
/-! ### steps, by program -/
local macro_rules | `(tactic| walk_at "kp") => `(tactic| first
  | assumption
  | exact sqA_of (by assumption)
  | exact sqB_of (by assumption)
  | exact sqL_of (by assumption)
  | exact sqT_of (by assumption)
  | exact Or.inl (by assumption)
  | exact Or.inr (by assumption)
  | exact Gr.refl _ _
  | exact GrA.gr (by assumption)
  | (apply Gr.trans ?_ (by first | assumption | exact GrA.gr (by assumption)); walk_at "kp")
  | (apply Gr.xd; (first | assumption | exact GrA.gr (T := []) (by assumption)); walk_at "kp")
  | (apply Gr.sq; (first | assumption | exact GrA.gr (T := []) (by assumption)); walk_at "kp")
  | (apply Gr.sqL; (first | assumption | exact GrA.gr (T := []) (by assumption)); walk_at "kp")
  | (apply Gr.sqT; (first | assumption | exact GrA.gr (T := []) (by assumption)); walk_at "kp")
  | (apply Gr.lst; (first | assumption | exact GrA.gr (T := []) (by assumption)); walk_at "kp")
  | (apply Gr.tup; (first | assumption | exact GrA.gr (T := []) (by assumption)); walk_at "kp"))
local macro_rules | `(tactic| walk_at "s") => `(tactic| first
  | with_reducible first
    | refine w_seq ?_ | refine w_asg ?_ | refine w_gname ?_ | refine w_if ?_ | refine w_ret ?_ | refine w_next ?_ | refine w_drop ?_ | refine w_retN ?_ | refine w_brk ?_ | refine w_cont ?_ | refine w_gsub ?_
    | refine w_op ?_ | refine w_c ?_ | refine w_nil ?_ | refine w_cons ?_ | refine w_cb ?_ | refine w_un ?_
    | refine w_I0 ?_ | refine w_U ?_ | refine w_add ?_ | refine w_test ?_ | refine w_tB ?_ | refine w_tr ?_ | refine w_exn ?_ | refine w_trn ?_ | refine w_and ?_ | refine w_or ?_ | refine w_not ?_ | refine w_andV ?_ | refine w_orV ?_ | refine w_notV ?_ | refine w_ifE ?_
    | refine w_eqI ?_ | refine w_neI ?_ | refine w_eqS ?_ | refine w_neS ?_ | refine w_eqB ?_ | refine w_neB ?_ | refine w_isNo ?_ | refine w_notN ?_
    | refine w_call0 ?_ | refine w_tupK ?_ | refine w_lstK ?_ | refine w_bm ?_ | refine w_nop ?_ | refine w_part ?_ | refine w_exi ?_ | refine w_sl ?_
    | refine w_lcS ?_ | refine w_lcR1 ?_ | refine w_lcR2 ?_ | refine w_lcE ?_ | refine w_frS ?_ | refine w_frR1 ?_ | refine w_frR2 ?_ | refine w_frE ?_ | refine w_frT ?_
    | refine w_tYes ?_ | refine w_lcH ?_ | refine w_callE ?_ | refine w_iteD ?_ | refine w_iteND ?_ | refine w_raise ?_ | refine raK1 ?_ | refine raK2 ?_ | refine w_iteNT ?_ | refine w_iteNF ?_ | refine w_ckw ?_ | refine w_callN ?_ | refine w_m1 ?_ | refine w_yes1 ?_ | refine w_iteT ?_ | refine w_iteF ?_ | refine w_abs ?_ | refine w_max2 ?_ | refine w_max3 ?_ | refine w_min2 ?_ | refine w_intI ?_
  | (with_reducible apply w_var; with_unfolding_all rfl)
  | (with_reducible apply w_lenI; walk_at "kp")
  | (with_reducible apply w_len; walk_at "kp")
  | (with_reducible apply w_sum; walk_at "kp")
  | (with_reducible refine lstK ?_ ?_; exact Nat.le_of_ble_eq_true rfl)
  | (with_reducible refine tupK ?_ ?_; exact Nat.le_of_ble_eq_true rfl)
  | (with_reducible apply w_list; walk_at "kp")
  | (with_reducible apply w_tuple; walk_at "kp")
  | (with_reducible apply w_slI; walk_at "kp")
  | (with_reducible apply w_inI; walk_at "kp")
  | (with_reducible apply w_notInI; walk_at "kp"))
local macro_rules | `(tactic| walk_at "go") => `(tactic| repeat' (walk_at "s"))
section
variable {P : Program} {w : World} {K : PySem.W.Frag} {mg : Str → Option Value} {base : Heap} {T : List (Addr × Str)}
def spRefuses (P : Program) (w : World) (K : PySem.W.Frag) (mg : Str → Option Value) (base : Heap) (T : List (Addr × Str)) (k : Nat) : Sp := fun vs H Q _ => ∃ f p parts ds Err, vs = [.ref f, .ref p] ∧ Ends_ P w K mg base k H f (fun _ _ => False) Err ∧ H p = some (.lst parts) ∧ DpAll K H parts ds ∧ parts.length ≤ 100 ∧ (∀ d ∈ ds, Flat 0 d) ∧
  (∀ c d H1, Err c d H1 → Gr T H H1 ∧ PySem.W.exmOne K c (.ref (He.ga K "Refused")) = some true ∧ ∃ D dd fs, c = .ref D ∧ d = some dd ∧ H1 dd = some (.xd fs) ∧ FaultOf K D fs (.str "fault" :: parts)) ∧ ∀ H', Gr T H H' → Q (.bl true) H'
theorem flat_any {n : Nat} {d : PyData} (h : Flat 0 d) : Flat n d := by
  cases h with
  | non => exact .non
  | bl b => exact .bl b
  | int i => exact .int i
  | str s => exact .str s
theorem short_flat {d : PyData} (h : Flat 0 d) : Short d := by
  cases h with
  | non => exact .non
  | bl b => exact .bl b
  | int i => exact .int i
  | str s => exact .str s
theorem rd_law_refuses {k : Nat} : ∀ vs H Q (E : XK), spRefuses P w K mg base T k vs H Q E → t__law_refuses K (spLikeN K T 4) (spTried P w K mg base T k) (E_ Q) (start ["call", "parts"] vs) H := by
  intro vs H Q E h
  obtain ⟨f, p, parts, ds, Err, rfl, hE, hp, hd, hl, hf, he, q⟩ := h
  unfold t__law_refuses
  walk_at "go"
  refine ⟨f, _, Err, rfl, hE, fun v H1 ho => ho.elim, fun c d H1 ho => ?_⟩
  obtain ⟨g1, e1, D, dd, fs, rfl, rfl, hx, hfa⟩ := he c d H1 ho
  refine ⟨e1, D, dd, fs, _, rfl, rfl, hx, hfa, fun l H2 g2 h2 => ?_⟩
  walk_at "go"
  intro z H3 nz g3 h3
  walk_at "go"
  have gg : Gr T H H3 := (g1.trans g2).trans (g3 T)
  refine w_cat h3 (gg.lst hp) (by show 1 + _ ≤ _; omega) fun l2 H4 nl g4 h4 => ?_
  walk_at "go"
  have gA : Gr T H H4 := gg.trans (g4 T)
  have dA : DpAll K H4 (.str "fault" :: parts) (.str "fault" :: ds) := .cons (.str _) (gA.dpAll hd)
  refine ⟨.ref l, .ref l2, .list (.str "fault" :: ds), rfl, .lst (n := 2) fun d hd => ?_, .lst ?_ fun d hd => ?_, .lst (sqL_of ((g4 T).lst ((g3 T).lst h2))) dA, .lst (sqL_of h4) dA, fun H5 g5 => ?_⟩
  · rcases List.mem_cons.mp hd with rfl | hd
    · exact .str _
    · exact flat_any (hf d hd)
  · have := dpAll_len hd
    rw [List.length_cons]
    omega
  · rcases List.mem_cons.mp hd with rfl | hd
    · exact .str _
    · exact short_flat (hf d hd)
  · exact q H5 (gA.trans g5)
end
end K20
end
section
set_option Elab.async false
set_option linter.all false
set_option maxRecDepth 100000
set_option maxHeartbeats 4000000
namespace K20
open PySem PySem.Spec PyProof.Rows L2 LamX U Evl L2H HotX LHot LX LV NdefX
/-! ### steps, by program -/
local macro_rules | `(tactic| walk_at "kp") => `(tactic| first
  | assumption
  | exact sqA_of (by assumption)
  | exact sqB_of (by assumption)
  | exact sqL_of (by assumption)
  | exact sqT_of (by assumption)
  | exact Or.inl (by assumption)
  | exact Or.inr (by assumption)
  | exact Gr.refl _ _
  | exact GrA.gr (by assumption)
  | (apply Gr.trans ?_ (by first | assumption | exact GrA.gr (by assumption)); walk_at "kp")
  | (apply Gr.xd; (first | assumption | exact GrA.gr (T := []) (by assumption)); walk_at "kp")
  | (apply Gr.sq; (first | assumption | exact GrA.gr (T := []) (by assumption)); walk_at "kp")
  | (apply Gr.sqL; (first | assumption | exact GrA.gr (T := []) (by assumption)); walk_at "kp")
  | (apply Gr.sqT; (first | assumption | exact GrA.gr (T := []) (by assumption)); walk_at "kp")
  | (apply Gr.lst; (first | assumption | exact GrA.gr (T := []) (by assumption)); walk_at "kp")
  | (apply Gr.tup; (first | assumption | exact GrA.gr (T := []) (by assumption)); walk_at "kp"))
local macro_rules | `(tactic| walk_at "s") => `(tactic| first
  | with_reducible first
    | refine w_seq ?_ | refine w_asg ?_ | refine w_gname ?_ | refine w_if ?_ | refine w_ret ?_ | refine w_next ?_ | refine w_drop ?_ | refine w_retN ?_ | refine w_brk ?_ | refine w_cont ?_ | refine w_gsub ?_
    | refine w_op ?_ | refine w_c ?_ | refine w_nil ?_ | refine w_cons ?_ | refine w_cb ?_ | refine w_un ?_
    | refine w_I0 ?_ | refine w_U ?_ | refine w_add ?_ | refine w_test ?_ | refine w_tB ?_ | refine w_tr ?_ | refine w_exn ?_ | refine w_trn ?_ | refine w_and ?_ | refine w_or ?_ | refine w_not ?_ | refine w_andV ?_ | refine w_orV ?_ | refine w_notV ?_ | refine w_ifE ?_
    | refine w_eqI ?_ | refine w_neI ?_ | refine w_eqS ?_ | refine w_neS ?_ | refine w_eqB ?_ | refine w_neB ?_ | refine w_isNo ?_ | refine w_notN ?_
    | refine w_call0 ?_ | refine w_tupK ?_ | refine w_lstK ?_ | refine w_bm ?_ | refine w_nop ?_ | refine w_part ?_ | refine w_exi ?_ | refine w_sl ?_
    | refine w_lcS ?_ | refine w_lcR1 ?_ | refine w_lcR2 ?_ | refine w_lcE ?_ | refine w_frS ?_ | refine w_frR1 ?_ | refine w_frR2 ?_ | refine w_frE ?_ | refine w_frT ?_
    | refine w_tYes ?_ | refine w_lcH ?_ | refine w_callE ?_ | refine w_iteD ?_ | refine w_iteND ?_ | refine w_raise ?_ | refine raK1 ?_ | refine raK2 ?_ | refine w_iteNT ?_ | refine w_iteNF ?_ | refine w_ckw ?_ | refine w_callN ?_ | refine w_m1 ?_ | refine w_yes1 ?_ | refine w_iteT ?_ | refine w_iteF ?_ | refine w_abs ?_ | refine w_max2 ?_ | refine w_max3 ?_ | refine w_min2 ?_ | refine w_intI ?_
  | (with_reducible apply w_var; with_unfolding_all rfl)
  | (with_reducible apply w_lenI; walk_at "kp")
  | (with_reducible apply w_len; walk_at "kp")
  | (with_reducible apply w_sum; walk_at "kp")
  | (with_reducible refine lstK ?_ ?_; exact Nat.le_of_ble_eq_true rfl)
  | (with_reducible refine tupK ?_ ?_; exact Nat.le_of_ble_eq_true rfl)
  | (with_reducible apply w_list; walk_at "kp")
  | (with_reducible apply w_tuple; walk_at "kp")
  | (with_reducible apply w_slI; walk_at "kp")
  | (with_reducible apply w_inI; walk_at "kp")
  | (with_reducible apply w_notInI; walk_at "kp"))
local macro_rules | `(tactic| walk_at "go") => `(tactic| repeat' (walk_at "s"))
section
variable {P : Program} {w : World} {K : PySem.W.Frag} {mg : Str → Option Value} {base : Heap} {T : List (Addr × Str)}
/-- a def whose code object is told -/
theorem okC {CX : CXT} {x qual : Str} {params : Arguments} {body : List Stmt} {scope : Scope} {dvs : List V} {kws : List (Str × V)} {q : Str × Option Str} {fd : FuncData} {N ps : List Str} {k : Nat} {sp : Sp} (F : FunD K x qual params body scope dvs kws (He.fAd K q) fd) (S : FnScope N ps scope) (len : ∀ vs H Q E, sp vs H Q E → vs.length = ps.length)
    (hbody : ∀ (A : Around) (outer : List Env) (s : Shared) (H : Hp) (vs : List V) (Q : VK) (E : XK), Room k (A.deeper (envOfC qual scope s.heap.objs.size (He.fAd K q) (.ref (He.codeOf K q)))) → sp vs H Q E →
      ∃ t, PSs (cxOf CX P w K mg base N qual scope (He.fAd K q) (.ref (He.codeOf K q)) A outer s H E) body t ∧ t { nx := fun _ H' => Q .non H', rt := Q } (start N vs) H) : FnOk P w K mg base CX (k + 1) (He.fAd K q) fd ps sp := by
  obtain ⟨oc, od, dV, kV, doc, pm, an, cdv, ct, osl, rfl, lk, hcd, _, _⟩ := F.ex
  obtain ⟨c, rfl⟩ := He.codeIn_ref hcd
  have ec : He.codeOf K q = c := He.codeOf_eq lk rfl
  subst ec
  exact fn_of lk hcd S len fun A outer s H vs Q E hr hsp => hbody A outer s H vs Q E hr hsp
/-- a lambda of the frame, as LamD, and that it is one -/
theorem lamOk_of {X : Cx} {params : Arguments} {scope : Scope} {body : Expr} {fr : List Str} {js : List Nat} {k : Nat} {tb : XK → TE} (S : NScope fr [] fr scope)
    (hfree : ∀ y ∈ scope.names, y.2 = .free → X.env.scope.names.lookup y.1 = some .cell ∨ X.env.scope.names.lookup y.1 = some .free) (hfr : ∀ y ∈ fr, (y, NameKind.free) ∈ scope.names) (hat : js.map (fun j => X.N[j]?) = fr.map some)
    (hbind : ∀ (c : Addr) (pm cv ctv : Value), bindArgs (PySem.W.kla_fn "<lambda>" (lamF X params scope c).qual params body scope (lamF X params scope c).cl pm cv ctv) ⟨[], []⟩ = pure [])
    (hbody : ∀ (c f : Addr) (A : Around) (outer : List Env) (s : Shared) (H : Hp) (E : XK), Room k (A.deeper (envF (lamF X params scope c) f s.heap.objs.size)) → PE (ncx (L2N.CX X.prog X.w) X.prog X.w X.K X.mg X.base fr (lamF X params scope c) f A outer s H E) body (tb E)) :
    LamOk X ⟨lamF X params scope, body, js, k + 1, fun vals => spLam tb fr vals⟩ := by
  intro pins σ H s I f c' hf hc
  exact thunk_ofF I hf hc (Caps.made I.ok hfree hfr hat) S (hbind c') (fun A outer s H E hr => hbody c' f A outer s H E hr)
theorem pe_callPinU {X : Cx} {x : Str} {k n : Nat} {ps : List Str} {sp : Sp} {e : Expr} {es : List Expr} {t : TA} {LS : List LamD} {p pos : Pos} (h : Has X.prog X.w X.K X.mg X.base x k ps sp) (hr : Room n X.A) (hk : k ≤ n) (hfn : ∀ x, X.fn x = true) (hL : ∀ L ∈ LS, LamOk X L) (hg : Gl X x) (ha : PA X (e :: es) t)
    (hdb : (x == ("__debug__" : Str)) = false := by decide) (he : starEach (e :: es) X.env = (false, eval e X.env) :: starEach es X.env := by rfl) (hpl : (backTo pos (starEach es X.env)).any (·.1) = false := by rfl) :
    PE X (.Call (.Name x p) (e :: es) [] pos) (tPin X.prog X.w X.K X.mg X.base LS sp t) := by
  obtain ⟨g, kp, fd, F, B⟩ := h
  exact pe_callPin F (hr.mono hk) hfn hL hg g kp B noCX ha hdb he hpl
/-! the text's lambdas -/
def firstArg : Stmt → Expr
  | .Assign _ (.Call _ (e :: _) _ _) _ => e
  | _ => .Constant .none 0 ⟨0, 0, 0, 0⟩
def lamP : Expr → Arguments
  | .Lambda a _ _ _ => a
  | _ => { posonlyargs := [], args := [], vararg := none, kwonlyargs := [], kw_defaults := [], kwarg := none, defaults := [] }
def lamB : Expr → Expr
  | .Lambda _ b _ _ => b
  | e => e
def lamS : Expr → Scope
  | .Lambda _ _ s _ => s
  | _ => { kind := .function, names := [], isGenerator := false, isCoroutine := false }
end
end K20
end
section
set_option Elab.async false
set_option linter.all false
set_option maxRecDepth 100000
set_option maxHeartbeats 4000000
namespace K20
open PySem PySem.Spec PyProof.Rows L2 LamX U Evl L2H HotX LHot LX LV NdefX
/-! ### steps, by program -/
local macro_rules | `(tactic| walk_at "kp") => `(tactic| first
  | assumption
  | exact sqA_of (by assumption)
  | exact sqB_of (by assumption)
  | exact sqL_of (by assumption)
  | exact sqT_of (by assumption)
  | exact Or.inl (by assumption)
  | exact Or.inr (by assumption)
  | exact Gr.refl _ _
  | exact GrA.gr (by assumption)
  | (apply Gr.trans ?_ (by first | assumption | exact GrA.gr (by assumption)); walk_at "kp")
  | (apply Gr.xd; (first | assumption | exact GrA.gr (T := []) (by assumption)); walk_at "kp")
  | (apply Gr.sq; (first | assumption | exact GrA.gr (T := []) (by assumption)); walk_at "kp")
  | (apply Gr.sqL; (first | assumption | exact GrA.gr (T := []) (by assumption)); walk_at "kp")
  | (apply Gr.sqT; (first | assumption | exact GrA.gr (T := []) (by assumption)); walk_at "kp")
  | (apply Gr.lst; (first | assumption | exact GrA.gr (T := []) (by assumption)); walk_at "kp")
  | (apply Gr.tup; (first | assumption | exact GrA.gr (T := []) (by assumption)); walk_at "kp"))
local macro_rules | `(tactic| walk_at "s") => `(tactic| first
  | with_reducible first
    | refine w_seq ?_ | refine w_asg ?_ | refine w_gname ?_ | refine w_if ?_ | refine w_ret ?_ | refine w_next ?_ | refine w_drop ?_ | refine w_retN ?_ | refine w_brk ?_ | refine w_cont ?_ | refine w_gsub ?_
    | refine w_op ?_ | refine w_c ?_ | refine w_nil ?_ | refine w_cons ?_ | refine w_cb ?_ | refine w_un ?_
    | refine w_I0 ?_ | refine w_U ?_ | refine w_add ?_ | refine w_test ?_ | refine w_tB ?_ | refine w_tr ?_ | refine w_exn ?_ | refine w_trn ?_ | refine w_and ?_ | refine w_or ?_ | refine w_not ?_ | refine w_andV ?_ | refine w_orV ?_ | refine w_notV ?_ | refine w_ifE ?_
    | refine w_eqI ?_ | refine w_neI ?_ | refine w_eqS ?_ | refine w_neS ?_ | refine w_eqB ?_ | refine w_neB ?_ | refine w_isNo ?_ | refine w_notN ?_
    | refine w_call0 ?_ | refine w_tupK ?_ | refine w_lstK ?_ | refine w_bm ?_ | refine w_nop ?_ | refine w_part ?_ | refine w_exi ?_ | refine w_sl ?_
    | refine w_lcS ?_ | refine w_lcR1 ?_ | refine w_lcR2 ?_ | refine w_lcE ?_ | refine w_frS ?_ | refine w_frR1 ?_ | refine w_frR2 ?_ | refine w_frE ?_ | refine w_frT ?_
    | refine w_tYes ?_ | refine w_lcH ?_ | refine w_callE ?_ | refine w_iteD ?_ | refine w_iteND ?_ | refine w_raise ?_ | refine raK1 ?_ | refine raK2 ?_ | refine w_iteNT ?_ | refine w_iteNF ?_ | refine w_ckw ?_ | refine w_callN ?_ | refine w_m1 ?_ | refine w_yes1 ?_ | refine w_iteT ?_ | refine w_iteF ?_ | refine w_abs ?_ | refine w_max2 ?_ | refine w_max3 ?_ | refine w_min2 ?_ | refine w_intI ?_
  | (with_reducible apply w_var; with_unfolding_all rfl)
  | (with_reducible apply w_lenI; walk_at "kp")
  | (with_reducible apply w_len; walk_at "kp")
  | (with_reducible apply w_sum; walk_at "kp")
  | (with_reducible refine lstK ?_ ?_; exact Nat.le_of_ble_eq_true rfl)
  | (with_reducible refine tupK ?_ ?_; exact Nat.le_of_ble_eq_true rfl)
  | (with_reducible apply w_list; walk_at "kp")
  | (with_reducible apply w_tuple; walk_at "kp")
  | (with_reducible apply w_slI; walk_at "kp")
  | (with_reducible apply w_inI; walk_at "kp")
  | (with_reducible apply w_notInI; walk_at "kp"))
local macro_rules | `(tactic| walk_at "go") => `(tactic| repeat' (walk_at "s"))
section
variable {P : Program} {w : World} {K : PySem.W.Frag} {mg : Str → Option Value} {base : Heap}
abbrev q2 : Str := "_law_faults_told.<locals>.<lambda>"
abbrev P2 (K : PySem.W.Frag) : Addr := (He.cT K ("_law_faults_told", none)).2
abbrev TT (K : PySem.W.Frag) : List (Addr × Str) := [(P2 K, q2)]
/-- what the written part says of both exception classes -/
structure Exs (K : PySem.W.Frag) : Prop where
  bs : RefB K (He.ga K "BadShape") "BadShape"
  bsA : PySem.W.findIn K (.ref (He.ga K "BadShape")) "at" = some none
  bsE : PySem.W.exmOne K (.ref (He.ga K "BadShape")) (.ref (He.ga K "Refused")) = some true
  tm : RefB K (He.ga K "TooMany") "TooMany"
  tmW : PySem.W.findIn K (.ref (He.ga K "TooMany")) "what" = some none
  tmC : PySem.W.findIn K (.ref (He.ga K "TooMany")) "count" = some none
  tmE : PySem.W.exmOne K (.ref (He.ga K "TooMany")) (.ref (He.ga K "Refused")) = some true
theorem w_pin {P : Program} {w : World} {mg : Str → Option Value} {base : Heap} {LS : List LamD} {sp : Sp} {t : TA} {σ : L2.St} {H : Hp} {Q : VK} (h : t σ H fun vs H1 => ∀ H2, PinR H1 H2 → Lams P w K mg base LS σ H1 H2 →
  sp vs H2 (fun v H3 => Kept H1 H2 H3 ∧ ∀ H4, UnpR H1 H2 H3 H4 → CodeK H3 H4 → Q v H4) fun _ _ _ => False) : tPin P w K mg base LS sp t σ H Q := h
theorem w_lamV {T : List (Addr × Str)} {mk : Addr → NF} {body : Expr} {σ : L2.St} {H : Hp} {Q : VK} (ht : Tabs T H) (h : ∀ (f c' : Addr) (H1 : Hp), Gr T H H1 → H f = none → H1 f = some (LamO f (mk c') body) → H1 (mk c').c = some (CodeO (mk c').c (mk c').qual) → Q (.ref f) H1) (hc : ∀ c', (mk c').c = c') : tLamV T mk body σ H Q :=
  ⟨ht, fun f c' H1 e n t nf hf hc2 => h f c' H1 ⟨e, n, fun _ => t⟩ nf hf (by rw [hc c']; exact hc2)⟩
theorem map_int_inj : ∀ {xs ys : List Int}, xs.map V.int = ys.map V.int → ys = xs
  | [], [], _ => rfl
  | [], _ :: _, h => by cases h
  | _ :: _, [], h => by cases h
  | x :: xs, y :: ys, h => by
    rw [List.map_cons, List.map_cons] at h
    obtain ⟨h1, h2⟩ := List.cons.inj h
    cases h1
    rw [map_int_inj h2]
end
end K20
end
section
set_option Elab.async false
set_option linter.all false
set_option maxRecDepth 100000
set_option maxHeartbeats 4000000
namespace K20
open PySem PySem.Spec PyProof.Rows L2 LamX U Evl L2H HotX LHot LX LV NdefX
/-! ### steps, by program -/
local macro_rules | `(tactic| walk_at "kp") => `(tactic| first
  | assumption
  | exact sqA_of (by assumption)
  | exact sqB_of (by assumption)
  | exact sqL_of (by assumption)
  | exact sqT_of (by assumption)
  | exact Or.inl (by assumption)
  | exact Or.inr (by assumption)
  | exact Gr.refl _ _
  | exact GrA.gr (by assumption)
  | (apply Gr.trans ?_ (by first | assumption | exact GrA.gr (by assumption)); walk_at "kp")
  | (apply Gr.xd; (first | assumption | exact GrA.gr (T := []) (by assumption)); walk_at "kp")
  | (apply Gr.sq; (first | assumption | exact GrA.gr (T := []) (by assumption)); walk_at "kp")
  | (apply Gr.sqL; (first | assumption | exact GrA.gr (T := []) (by assumption)); walk_at "kp")
  | (apply Gr.sqT; (first | assumption | exact GrA.gr (T := []) (by assumption)); walk_at "kp")
  | (apply Gr.lst; (first | assumption | exact GrA.gr (T := []) (by assumption)); walk_at "kp")
  | (apply Gr.tup; (first | assumption | exact GrA.gr (T := []) (by assumption)); walk_at "kp"))
local macro_rules | `(tactic| walk_at "s") => `(tactic| first
  | with_reducible first
    | refine w_seq ?_ | refine w_asg ?_ | refine w_gname ?_ | refine w_if ?_ | refine w_ret ?_ | refine w_next ?_ | refine w_drop ?_ | refine w_retN ?_ | refine w_brk ?_ | refine w_cont ?_ | refine w_gsub ?_
    | refine w_op ?_ | refine w_c ?_ | refine w_nil ?_ | refine w_cons ?_ | refine w_cb ?_ | refine w_un ?_
    | refine w_I0 ?_ | refine w_U ?_ | refine w_add ?_ | refine w_test ?_ | refine w_tB ?_ | refine w_tr ?_ | refine w_exn ?_ | refine w_trn ?_ | refine w_and ?_ | refine w_or ?_ | refine w_not ?_ | refine w_andV ?_ | refine w_orV ?_ | refine w_notV ?_ | refine w_ifE ?_
    | refine w_eqI ?_ | refine w_neI ?_ | refine w_eqS ?_ | refine w_neS ?_ | refine w_eqB ?_ | refine w_neB ?_ | refine w_isNo ?_ | refine w_notN ?_
    | refine w_call0 ?_ | refine w_tupK ?_ | refine w_lstK ?_ | refine w_bm ?_ | refine w_nop ?_ | refine w_part ?_ | refine w_exi ?_ | refine w_sl ?_
    | refine w_lcS ?_ | refine w_lcR1 ?_ | refine w_lcR2 ?_ | refine w_lcE ?_ | refine w_frS ?_ | refine w_frR1 ?_ | refine w_frR2 ?_ | refine w_frE ?_ | refine w_frT ?_
    | refine w_tYes ?_ | refine w_lcH ?_ | refine w_callE ?_ | refine w_iteD ?_ | refine w_iteND ?_ | refine w_raise ?_ | refine raK1 ?_ | refine raK2 ?_ | refine w_iteNT ?_ | refine w_iteNF ?_ | refine w_ckw ?_ | refine w_callN ?_ | refine w_m1 ?_ | refine w_yes1 ?_ | refine w_iteT ?_ | refine w_iteF ?_ | refine w_abs ?_ | refine w_max2 ?_ | refine w_max3 ?_ | refine w_min2 ?_ | refine w_intI ?_
  | (with_reducible apply w_var; with_unfolding_all rfl)
  | (with_reducible apply w_lenI; walk_at "kp")
  | (with_reducible apply w_len; walk_at "kp")
  | (with_reducible apply w_sum; walk_at "kp")
  | (with_reducible refine lstK ?_ ?_; exact Nat.le_of_ble_eq_true rfl)
  | (with_reducible refine tupK ?_ ?_; exact Nat.le_of_ble_eq_true rfl)
  | (with_reducible apply w_list; walk_at "kp")
  | (with_reducible apply w_tuple; walk_at "kp")
  | (with_reducible apply w_slI; walk_at "kp")
  | (with_reducible apply w_inI; walk_at "kp")
  | (with_reducible apply w_notInI; walk_at "kp"))
local macro_rules | `(tactic| walk_at "go") => `(tactic| repeat' (walk_at "s"))
variable {K : PySem.W.Frag} {T : List (Addr × Str)}
def sortUp (l : List Int) : List Int := l.mergeSort fun a b => decide (a ≤ b)
theorem sortUp_perm (l : List Int) : (sortUp l).Perm l := List.mergeSort_perm l _
theorem sortUp_pw (l : List Int) : (sortUp l).Pairwise (· ≤ ·) := by
  have h := List.pairwise_mergeSort (le := fun a b : Int => decide (a ≤ b)) (fun a b c h1 h2 => by simp at *; omega) (fun a b => by simp; omega) l
  exact h.imp fun h => by simpa using h
theorem sortUp_of : ∀ {l m : List Int}, m.Perm l → m.Pairwise (· ≤ ·) → m = sortUp l := fun {l m} h1 h2 => by
  have h3 := h1.trans (sortUp_perm l).symm
  exact h3.eq_of_pairwise (le := fun a b : Int => a ≤ b) (fun a b _ _ h4 h5 => by omega) h2 (sortUp_pw l)
theorem sortUp_len (l : List Int) : (sortUp l).length = l.length := (sortUp_perm l).length_eq
/-! ### the program -/
theorem rd_turn_rows : ∀ vs H Q (E : XK), spColumns K T vs H Q E → t_turn_rows K (E_ Q) (start ["rows", "widest", "at", "row"] vs) H := by
  intro vs H Q E h
  obtain ⟨a, lam, rfl, hs, hl, ht, q⟩ := h
  unfold t_turn_rows
  have fin : ∀ (m : Int), m = lam.headD 0 → (tRet (tCB (uTup K) (tCons (tLc (iRng1 (tCons (tVar 1) tNil)) (gName 2) tYes (tCB (uLen K) (tCons (tLc (iSeq K (tVar 0)) (gName 3) (tTest (tOp qGt (tVar 3) (tVar 2))) (tVar 3) [3]) tNil)) [2]) tNil))) (E_ Q) [some (.ref a), some (.int m), none, none] H := by
    intro m em
    have hm : -1000 ≤ m ∧ m ≤ 1000 := by
      cases lam with
      | nil => rw [em]; decide
      | cons x r => rw [em]; exact ht x (List.mem_cons_self ..)
    walk_at "go"
    refine lc_R1 (T := T) (fun _ => true) (fun j => .int (colAt lam j)) (by omega) (by omega) (fun _ => rfl) (fun k k0 k1 H2 g2 Yes No hy hn => ?_) (fun D H1 g1 nD h1 => ?_)
    · walk_at "go"
      refine lc_I (T := T) (g2.sq hs) (fun n => decide (k < n)) V.int (by omega) (fun _ => rfl) (fun n hn H5 g5 Yes No hy hno => ?_) (fun D H1 g1 nD h1 => ?_)
      · walk_at "go"
        refine w_bool (fun e => ?_) (fun e => ?_)
        · walk_at "go"
          exact hy e _ (Gr.refl _ _)
        · exact hno e _ (Gr.refl _ _)
      · walk_at "go"
        exact hy rfl _ (by walk_at "kp")
    · walk_at "go"
      intro l H3 g3 h3
      refine q l H3 (by walk_at "kp") ?_
      rw [List.filter_eq_self.mpr (fun _ _ => rfl)] at h3
      unfold lawColumns
      rw [List.map_map, ← em]
      exact h3
  walk_at "go"
  have tr : ∃ k', TruV K (.ref a) H k' ∧ (k' = !lam.isEmpty) := by
    rcases hs with h | h
    · exact ⟨_, .inl ⟨_, h, rfl⟩, by cases lam <;> rfl⟩
    · exact ⟨_, .inr (.inl ⟨_, h, rfl⟩), by cases lam <;> rfl⟩
  obtain ⟨k', t1, t2⟩ := tr
  refine ⟨k', t1, ?_⟩
  cases lam with
  | nil =>
    rw [t2]
    walk_at "go"
    refine w_no rfl ?_
    walk_at "go"
    have z := fin 0 rfl
    unfold tRet tCB tCons tLc iRng1 tNil at z
    obtain ⟨v, e1, z⟩ := z
    have e1 : V.int 0 = v := Option.some.inj (Option.some.inj e1)
    subst e1
    exact z
  | cons x r =>
    rw [t2]
    walk_at "go"
    refine w_yes rfl ?_
    walk_at "go"
    refine w_ixZ (k := 0) hs (by decide) (by simp) ?_
    walk_at "go"
    have z := fin x rfl
    unfold tRet tCB tCons tLc iRng1 tNil at z
    obtain ⟨v, e1, z⟩ := z
    have e1 : V.int x = v := Option.some.inj (Option.some.inj e1)
    subst e1
    exact z
def spReadShape (K : PySem.W.Frag) (T : List (Addr × Str)) : Sp := fun vs H Q E => ∃ v xs, vs = [v] ∧ RowsArg K H v xs ∧ (∀ w, wrongAt none xs 0 = some w → Bad K T H E (w : Int)) ∧
  (∀ rows : List Int, wrongAt none xs 0 = none → xs = rows.map .int → rows.length ≤ 1000 ∧ (30 < rows.sum → Many K T H E "cells" rows.sum) ∧ (rows.sum ≤ 30 → ∀ a H', Gr T H H' → SqT K H' a (rows.map .int) → Q (.ref a) H'))
theorem rd_read_shape : ∀ vs H Q (E : XK), spReadShape K T vs H Q E → t_read_shape K (spRowsOf K T) (spAskCells K T) E (E_ Q) (start ["thing", "rows"] vs) H := by
  intro vs H Q E h
  obtain ⟨v, xs, rfl, ha, q1, q2⟩ := h
  unfold t_read_shape
  walk_at "go"
  refine ⟨v, xs, rfl, ha, fun e rows a H1 er g1 h1 => ?_, q1⟩
  obtain ⟨hl, p1, p2⟩ := q2 rows e er
  have s1 : Sq K H1 a (List.map V.int rows) := .inr h1
  walk_at "go"
  refine ⟨_, rfl, fun e2 => ?_, fun e2 => (p1 e2).up g1⟩
  walk_at "go"
  exact p2 e2 a H1 g1 h1
def spFalling (K : PySem.W.Frag) (T : List (Addr × Str)) : Sp := fun vs H Q E => ∃ v xs site, vs = [v, .int site] ∧ RowsArg K H v xs ∧ (∀ w, wrongAt none xs 0 = some w → Bad K T H E (w : Int)) ∧
  (∀ rows : List Int, wrongAt none xs 0 = none → xs = rows.map .int → rows.length ≤ 1000 ∧ (60 < site.natAbs → Many K T H E "site" site.natAbs) ∧ (site.natAbs ≤ 60 → rows.sum ≤ 30 ∧ ∀ H', Gr T H H' → Q (.bl (siteFalls rows site)) H'))
theorem rd_falling : ∀ vs H Q (E : XK), spFalling K T vs H Q E → t_falling K (spRowsOf K T) (spAskSite K T) (spAskCells K T) (spSiteFalls K T) E (E_ Q) (start ["shape", "site", "rows"] vs) H := by
  intro vs H Q E h
  obtain ⟨v, xs, site, rfl, ha, q1, q2⟩ := h
  unfold t_falling
  walk_at "go"
  refine ⟨v, xs, rfl, ha, fun e rows a H1 er g1 h1 => ?_, q1⟩
  obtain ⟨hl, p1, p2⟩ := q2 rows e er
  have s1 : Sq K H1 a (List.map V.int rows) := .inr h1
  walk_at "go"
  refine ⟨site, rfl, fun e1 => ?_, fun e1 => (p1 e1).up g1⟩
  obtain ⟨h30, p3⟩ := p2 e1
  walk_at "go"
  refine ⟨_, rfl, fun _ => ?_, fun e2 => by omega⟩
  walk_at "go"
  refine ⟨a, rows, site, rfl, .inr h1, hl, fun H2 g2 => ?_⟩
  exact p3 H2 (g1.trans g2)
def gapsFrom (rows : List Int) (low : Int) : List Int := (firstGaps rows (max (rows.length : Int) (-low))).reverse.filter fun s => decide (low ≤ s)
def spGaps (K : PySem.W.Frag) (T : List (Addr × Str)) : Sp := fun vs H Q E => ∃ v xs low, vs = [v, .int low] ∧ RowsArg K H v xs ∧ (∀ w, wrongAt none xs 0 = some w → Bad K T H E (w : Int)) ∧
  (∀ rows : List Int, wrongAt none xs 0 = none → xs = rows.map .int → rows.length ≤ 1000 ∧ (60 < low.natAbs → Many K T H E "site" low.natAbs) ∧ (low.natAbs ≤ 60 → rows.sum ≤ 30 ∧ ∀ l H', Gr T H H' → H l = none → H' l = some (.lst ((gapsFrom rows low).map .int)) → Q (.ref l) H'))
theorem rd_gaps : ∀ vs H Q (E : XK), spGaps K T vs H Q E → t_gaps K (spRowsOf K T) (spAskSite K T) (spAskCells K T) (spFirstGaps K T) E (E_ Q) (start ["shape", "low", "rows", "row", "site"] vs) H := by
  intro vs H Q E h
  obtain ⟨v, xs, low, rfl, ha, q1, q2⟩ := h
  unfold t_gaps
  walk_at "go"
  refine ⟨v, xs, rfl, ha, fun e rows a H1 er g1 h1 => ?_, q1⟩
  obtain ⟨hl, p1, p2⟩ := q2 rows e er
  have s1 : Sq K H1 a (List.map V.int rows) := .inr h1
  walk_at "go"
  refine ⟨low, rfl, fun e1 => ?_, fun e1 => (p1 e1).up g1⟩
  obtain ⟨h30, p3⟩ := p2 e1
  walk_at "go"
  refine ⟨_, rfl, fun _ => ?_, fun e2 => by omega⟩
  walk_at "go"
  refine ⟨a, rows, _, rfl, .inr h1, hl, by omega, by omega, fun l H2 g2 nl e2 => ?_⟩
  have hL := firstGaps_len rows (max (rows.length : Int) (-low))
  walk_at "go"
  refine ⟨_, rfl, l, _, rfl, sqL_of e2, fun p np => ?_⟩
  have gp : GrA H2 (upd H2 p (.lst ((firstGaps rows (max (rows.length : Int) (-low))).map V.int).reverse)) := .new np
  refine lc_I (T := T) (sqA_of (by rw [upd_same, ← List.map_reverse])) (fun s => decide (low ≤ s)) V.int (by rw [List.length_reverse]; omega) (fun _ => rfl) (fun n hn H5 g5 Yes No hy hno => ?_) (fun D H3 g3 nD h3 => ?_)
  · walk_at "go"
    refine w_bool (fun e => ?_) (fun e => ?_)
    · walk_at "go"
      exact hy e _ (Gr.refl _ _)
    · exact hno e _ (Gr.refl _ _)
  · have g12 : Gr T H (upd H2 p (.lst ((firstGaps rows (max (rows.length : Int) (-low))).map V.int).reverse)) := (g1.trans g2).trans (gp T)
    exact p3 D H3 (g12.trans g3) (g12.free D nD) h3
def spTurned (K : PySem.W.Frag) (T : List (Addr × Str)) : Sp := fun vs H Q E => ∃ v xs, vs = [v] ∧ RowsArg K H v xs ∧ (∀ w, wrongAt none xs 0 = some w → Bad K T H E (w : Int)) ∧
  (∀ rows : List Int, wrongAt none xs 0 = none → xs = rows.map .int → Part rows ∧ rows.sum ≤ 30 ∧ ∀ a H', Gr T H H' → SqT K H' a ((lawColumns rows).map .int) → Q (.ref a) H')
theorem part_bd {lam : List Int} (p : Part lam) (z : lam.sum ≤ 30) : lam.length ≤ 30 ∧ ∀ x ∈ lam, 1 ≤ x ∧ x ≤ 30 := by
  have h1 := len_le_sum p.pos
  have h2 := mem_le_sum p.nn
  exact ⟨by omega, fun x hx => ⟨p.pos x hx, by have := h2 x hx; omega⟩⟩
theorem rd_turned : ∀ vs H Q (E : XK), spTurned K T vs H Q E → t_turned K (spColumns K T) (spReadShape K T) E (E_ Q) (start ["shape"] vs) H := by
  intro vs H Q E h
  obtain ⟨v, xs, rfl, ha, q1, q2⟩ := h
  unfold t_turned
  walk_at "go"
  refine ⟨v, xs, rfl, ha, q1, fun rows e er => ?_⟩
  obtain ⟨p, z, q⟩ := q2 rows e er
  obtain ⟨b1, b2⟩ := part_bd p z
  refine ⟨by omega, fun e => by omega, fun _ a H1 g1 h1 => ?_⟩
  walk_at "go"
  refine ⟨a, rows, rfl, .inr h1, by omega, fun x hx => by have := b2 x hx; omega, fun l H2 g2 h2 => ?_⟩
  exact q l H2 (g1.trans g2) h2
/-! hooks -/
theorem fr_ET2 {K : PySem.W.Frag} {H1 : Hp} {tb : TS} {D : Ends} {σ : L2.St} {a : Addr} {xs : List V} {j j2 : Nat} (T : List (Addr × Str)) (Pv : Nat → L2.St → Hp → Prop) (h0 : Pv 0 σ H1) (hk : ∀ i σ' H', Pv i σ' H' → SqT K H' a xs)
    (hst : ∀ (i : Nat) x σ' H' H2, xs[i]? = some x → Pv i σ' H' → Gr T H' H2 → tb { D with nx := Pv (i + 1), ct := Pv (i + 1), bk := D.nx } ((σ'.set j (some (.int (i : Nat)))).set j2 (some x)) H2) (hd : ∀ σ' H', Pv xs.length σ' H' → D.nx σ' H') :
    FrET K (gTup K 2 (gCons (gName j) (gCons (gName j2) gNil))) tb D σ [.ref a] H1 := by
  refine ⟨a, xs, rfl, hk _ _ _ h0, frG (n := xs.length) (yl := fun _ _ _ => True) Pv h0 fun i σ' H' hi p => ?_⟩
  obtain ⟨y1, y2, y3⟩ := yl_enumT (T := T) (hk i σ' H' p) H' (Gr.refl _ _)
  refine ⟨fun hlt => ⟨y1 i hlt, fun x H'' y => ?_⟩, fun e => ⟨y2 i (by omega), hd σ' H' (by rw [← e]; exact p)⟩⟩
  obtain ⟨gr, q, z, rfl, h1, h2⟩ := y3 i x H'' hlt y
  exact ⟨q, _, rfl, .inl (.inl h1), rfl, _, _, rfl, _, _, rfl, rfl, hst i z σ' H' H'' h2 p gr⟩
def hkk (lam : List Int) (q : Int × Int) : Int := lam.getD q.1.toNat 0 - q.2 - 1 + ((lawColumns lam).getD q.2.toNat 0 - q.1 - 1) + 1
def foundHooks (lam : List Int) : List Int := (cellsTo lam lam.length).map (hkk lam)
def spHooksP (K : PySem.W.Frag) (T : List (Addr × Str)) : Sp := fun vs H Q E => ∃ v xs, vs = [v] ∧ RowsArg K H v xs ∧ (∀ w, wrongAt none xs 0 = some w → Bad K T H E (w : Int)) ∧
  (∀ rows : List Int, wrongAt none xs 0 = none → xs = rows.map .int → Part rows ∧ rows.sum ≤ 30 ∧ ∀ l H', Gr T H H' → H l = none → H' l = some (.lst ((sortUp (foundHooks rows)).map .int)) → Q (.ref l) H')
theorem cols_len {lam : List Int} : (lawColumns lam).length = (lam.headD 0).toNat := by
  unfold lawColumns
  rw [List.length_map, rgI_len]
  omega
theorem rd_hooks : ∀ vs H Q (E : XK), spHooksP K T vs H Q E → tT_hooks K (spReadShape K T) (spColumns K T) E (E_ Q) (start ["shape", "rows", "columns", "found", "i", "row", "j", "right", "below"] vs) H := by
  intro vs H Q E h
  obtain ⟨v, xs, rfl, ha, q1, q2⟩ := h
  unfold tT_hooks
  walk_at "go"
  refine ⟨v, xs, rfl, ha, q1, fun rows e er => ?_⟩
  obtain ⟨p, z, q⟩ := q2 rows e er
  obtain ⟨b1, b2⟩ := part_bd p z
  refine ⟨by omega, fun e => by omega, fun _ a H1 g1 h1 => ?_⟩
  have s1 : Sq K H1 a (List.map V.int rows) := .inr h1
  walk_at "go"
  refine ⟨a, rows, rfl, s1, by omega, fun x hx => by have := b2 x hx; omega, fun c H2 g2 h2 => ?_⟩
  walk_at "go"
  intro L H3 nL g3 h3
  walk_at "go"
  refine w_frET ?_
  walk_at "go"
  have g12 := g1.trans g2
  have cl := cellsTo_len rows (fun x hx => by have := b2 x hx; omega)
  refine fr_ET2 (xs := rows.map V.int) T (fun i σ H' => ∃ u4 u5 u6 u7 u8, σ = [some v, some (.ref a), some (.ref c), some (.ref L), u4, u5, u6, u7, u8] ∧ Gr T H2 H' ∧ H' L = some (.lst (((cellsTo rows i).map (hkk rows)).map V.int))) ⟨_, _, _, _, _, rfl, g3 T, h3⟩ (fun i σ' H' p' => ?_) (fun i x σ' H' H4 hx p' g4 => ?_) (fun σ' H' p' => ?_)
  · obtain ⟨u4, u5, u6, u7, u8, rfl, g, hL⟩ := p'
    exact g.sqT (g2.sqT h1)
  · obtain ⟨u4, u5, u6, u7, u8, rfl, g, hL⟩ := p'
    have hi : i < rows.length := by
      have := (List.getElem?_eq_some_iff.mp hx).1
      simpa using this
    have ex : x = .int (rows.getD i 0) := by
      rw [List.getElem?_map, List.getElem?_eq_getElem hi] at hx
      rw [List.getD_eq_getElem?_getD, List.getElem?_eq_getElem hi]
      exact (Option.some.inj hx).symm
    subst ex
    have hg := p.get hi
    have hr30 := b2 _ (List.getElem_mem hi)
    have er2 : rows.getD i 0 = rows[i] := by rw [List.getD_eq_getElem?_getD, List.getElem?_eq_getElem hi]; rfl
    walk_at "go"
    refine fr_R1 (by omega) (by omega) (fun j σ H' => ∃ u6 u7 u8, σ = [some v, some (.ref a), some (.ref c), some (.ref L), some (.int (i : Nat)), some (.int (rows.getD i 0)), u6, u7, u8] ∧ Gr T H2 H' ∧ H' L = some (.lst (((cellsTo rows i ++ (rgI 0 (j : Nat)).map fun j => ((i : Int), j)).map (hkk rows)).map V.int))) ⟨_, _, _, rfl, g.trans g4, by simpa [rgI] using g4.lst hL⟩ (fun j σ2 H5 hj p2 => ?_) (fun σ2 H5 p2 => ?_)
    · obtain ⟨u6, u7, u8, rfl, g5, hL5⟩ := p2
      have clen := cols_len (lam := rows)
      walk_at "go"
      refine w_ixZ (.inr (g5.sqT h2)) (by omega) (by rw [clen]; omega) ?_
      walk_at "go"
      refine ty_lst hL5 ?_
      walk_at "go"
      have hc := cl i
      refine w_append hL5 (by rw [List.length_map, List.length_map, List.length_append, List.length_map, rgI_len]; omega) ?_
      walk_at "go"
      refine ⟨_, _, _, rfl, g5.set nL hL5, ?_⟩
      rw [upd_same, rgI_succ]
      simp only [List.map_append, List.append_assoc]
      rfl
    · obtain ⟨u6, u7, u8, rfl, g5, hL5⟩ := p2
      walk_at "go"
      refine ⟨_, _, _, _, _, rfl, g5, ?_⟩
      rw [cellsTo_succ]
      have e : (((rows.getD i 0).toNat : Nat) : Int) = rows.getD i 0 := by omega
      rw [e] at hL5
      exact hL5
  · obtain ⟨u4, u5, u6, u7, u8, rfl, g, hL⟩ := p'
    rw [List.length_map] at hL
    walk_at "go"
    refine ⟨L, (cellsTo rows rows.length).map (hkk rows), rfl, sqL_of hL, fun ns' s hp hw ns => ?_⟩
    have e := sortUp_of hp hw
    walk_at "go"
    have gs : Gr T H (upd H' s (.lst (ns'.map V.int))) := (g12.trans g).trans (Gr.new ns)
    refine q s _ gs ((g12.trans g).free s ns) ?_
    rw [upd_same, e]
    rfl
/-! core -/
def evenN (rows : List Int) (many : Int) : Int := (((firstGaps rows many).filter fun g => decide (g % 2 = 0)).length : Int)
def coreRow (rows : List Int) (many : Int) : List Int := ((rgI 0 (evenN rows many)).map fun t => 2 * t - many) ++ ((rgI 0 (many - evenN rows many)).map fun t => 2 * t + 1 - many)
def manyOf (rows : List Int) : Int := (rows.length : Int) + (rows.length : Int) % 2
def coreRows (rows : List Int) : List Int := rowsOfGaps (sortDown (coreRow rows (manyOf rows)))
def spCore (K : PySem.W.Frag) (T : List (Addr × Str)) : Sp := fun vs H Q E => ∃ v xs, vs = [v] ∧ RowsArg K H v xs ∧ (∀ w, wrongAt none xs 0 = some w → Bad K T H E (w : Int)) ∧
  (∀ rows : List Int, wrongAt none xs 0 = none → xs = rows.map .int → rows.length ≤ 1000 ∧ (30 < rows.sum → Many K T H E "cells" rows.sum) ∧ (rows.sum ≤ 30 → ∀ l H', Gr T H H' → SqT K H' l ((coreRows rows).map .int) → Q (.ref l) H'))
theorem rd_core : ∀ vs H Q (E : XK), spCore K T vs H Q E → t_core K (spReadShape K T) (spFirstGaps K T) (spRowsOfGaps K T) E (E_ Q) (start ["shape", "rows", "many", "row", "even", "evens", "odds", "at", "gap"] vs) H := by
  intro vs H Q E h
  obtain ⟨v, xs, rfl, ha, q1, q2⟩ := h
  unfold t_core
  walk_at "go"
  refine ⟨v, xs, rfl, ha, q1, fun rows e er => ?_⟩
  obtain ⟨hl, p1, p2⟩ := q2 rows e er
  refine ⟨hl, p1, fun e2 a H1 g1 h1 => ?_⟩
  have s1 : Sq K H1 a (List.map V.int rows) := .inr h1
  walk_at "go"
  refine w_I (by decide) ?_
  walk_at "go"
  have em : (rows.length : Int) + (rows.length : Int) % 2 = manyOf rows := rfl
  rw [em]
  have m0 : (rows.length : Int) ≤ manyOf rows ∧ manyOf rows ≤ rows.length + 1 := by unfold manyOf; omega
  refine ⟨a, rows, _, rfl, s1, hl, by omega, by omega, fun l H2 g2 nl e3 => ?_⟩
  have hL := firstGaps_len rows (manyOf rows)
  walk_at "go"
  refine lc_I (T := T) (sqA_of e3) (fun g => decide (g % 2 = 0)) V.int (by omega) (fun _ => rfl) (fun n hn H5 g5 Yes No hy hno => ?_) (fun D H3 g3 nD h3 => ?_)
  · walk_at "go"
    refine w_I (by decide) ?_
    walk_at "go"
    refine w_bool (fun e => ?_) (fun e => ?_)
    · walk_at "go"
      exact hy e _ (Gr.refl _ _)
    · exact hno e _ (Gr.refl _ _)
  · walk_at "go"
    have ev : (((firstGaps rows (manyOf rows)).filter fun g => decide (g % 2 = 0)).length : Int) = evenN rows (manyOf rows) := rfl
    have ev0 : 0 ≤ evenN rows (manyOf rows) ∧ evenN rows (manyOf rows) ≤ 2000 := by
      have := List.length_filter_le (fun g : Int => decide (g % 2 = 0)) (firstGaps rows (manyOf rows))
      unfold evenN
      omega
    rw [ev]
    refine lc_R1 (T := T) (fun _ => true) (fun t => .int (2 * t - manyOf rows)) (by omega) (by omega) (fun _ => rfl) (fun k k0 k1 H5 g5 Yes No hy hn => ?_) (fun D2 H4 g4 nD2 h4 => ?_)
    · walk_at "go"
      refine w_mul (.inl ⟨by decide, by decide⟩) ?_
      walk_at "go"
      exact hy rfl _ (Gr.refl _ _)
    · walk_at "go"
      refine lc_R1 (T := T) (fun _ => true) (fun t => .int (2 * t + 1 - manyOf rows)) (by omega) (by omega) (fun _ => rfl) (fun k k0 k1 H6 g6 Yes No hy hn => ?_) (fun D3 H5 g5 nD3 h5 => ?_)
      · walk_at "go"
        refine w_mul (.inl ⟨by decide, by decide⟩) ?_
        walk_at "go"
        exact hy rfl _ (Gr.refl _ _)
      · walk_at "go"
        rw [List.filter_eq_self.mpr (fun _ _ => rfl)] at h4 h5
        refine w_cat (g5.lst h4) h5 (by rw [List.length_map, List.length_map, rgI_len, rgI_len]; omega) fun l3 H6 nl3 g6 h6 => ?_
        walk_at "go"
        refine ⟨l3, coreRow rows (manyOf rows), rfl, rfl, sqL_of (by rw [h6]; unfold coreRow; rw [List.map_append, List.map_map, List.map_map] <;> rfl), fun ns' p hp hw np => ?_⟩
        have en := sortDown_of hp hw
        walk_at "go"
        have gp : Gr T H6 (upd H6 p (.lst (ns'.map V.int))) := Gr.new np
        refine ⟨p, ns', rfl, sqL_of upd_same, ?_, fun l5 H7 g7 h7 => ?_⟩
        · rw [en, sortDown_len]
          unfold coreRow
          rw [List.length_append, List.length_map, List.length_map, rgI_len, rgI_len]
          omega
        · refine p2 e2 l5 H7 (((((g1.trans g2).trans g3).trans (g4.trans g5)).trans (g6 T)).trans (gp.trans g7)) ?_
          rw [en] at h7
          exact h7
end K20
end
section
set_option Elab.async false
set_option linter.all false
set_option maxRecDepth 100000
set_option maxHeartbeats 4000000
namespace K20
open PySem PySem.Spec PyProof.Rows L2 LamX U Evl L2H HotX LHot LX LV NdefX
/-! ### steps, by program -/
local macro_rules | `(tactic| walk_at "kp") => `(tactic| first
  | assumption
  | exact sqA_of (by assumption)
  | exact sqB_of (by assumption)
  | exact sqL_of (by assumption)
  | exact sqT_of (by assumption)
  | exact Or.inl (by assumption)
  | exact Or.inr (by assumption)
  | exact Gr.refl _ _
  | exact GrA.gr (by assumption)
  | (apply Gr.trans ?_ (by first | assumption | exact GrA.gr (by assumption)); walk_at "kp")
  | (apply Gr.xd; (first | assumption | exact GrA.gr (T := []) (by assumption)); walk_at "kp")
  | (apply Gr.sq; (first | assumption | exact GrA.gr (T := []) (by assumption)); walk_at "kp")
  | (apply Gr.sqL; (first | assumption | exact GrA.gr (T := []) (by assumption)); walk_at "kp")
  | (apply Gr.sqT; (first | assumption | exact GrA.gr (T := []) (by assumption)); walk_at "kp")
  | (apply Gr.lst; (first | assumption | exact GrA.gr (T := []) (by assumption)); walk_at "kp")
  | (apply Gr.tup; (first | assumption | exact GrA.gr (T := []) (by assumption)); walk_at "kp"))
local macro_rules | `(tactic| walk_at "s") => `(tactic| first
  | with_reducible first
    | refine w_seq ?_ | refine w_asg ?_ | refine w_gname ?_ | refine w_if ?_ | refine w_ret ?_ | refine w_next ?_ | refine w_drop ?_ | refine w_retN ?_ | refine w_brk ?_ | refine w_cont ?_ | refine w_gsub ?_
    | refine w_op ?_ | refine w_c ?_ | refine w_nil ?_ | refine w_cons ?_ | refine w_cb ?_ | refine w_un ?_
    | refine w_I0 ?_ | refine w_U ?_ | refine w_add ?_ | refine w_test ?_ | refine w_tB ?_ | refine w_tr ?_ | refine w_exn ?_ | refine w_trn ?_ | refine w_and ?_ | refine w_or ?_ | refine w_not ?_ | refine w_andV ?_ | refine w_orV ?_ | refine w_notV ?_ | refine w_ifE ?_
    | refine w_eqI ?_ | refine w_neI ?_ | refine w_eqS ?_ | refine w_neS ?_ | refine w_eqB ?_ | refine w_neB ?_ | refine w_isNo ?_ | refine w_notN ?_
    | refine w_call0 ?_ | refine w_tupK ?_ | refine w_lstK ?_ | refine w_bm ?_ | refine w_nop ?_ | refine w_part ?_ | refine w_exi ?_ | refine w_sl ?_
    | refine w_lcS ?_ | refine w_lcR1 ?_ | refine w_lcR2 ?_ | refine w_lcE ?_ | refine w_frS ?_ | refine w_frR1 ?_ | refine w_frR2 ?_ | refine w_frE ?_ | refine w_frT ?_
    | refine w_tYes ?_ | refine w_lcH ?_ | refine w_callE ?_ | refine w_iteD ?_ | refine w_iteND ?_ | refine w_raise ?_ | refine raK1 ?_ | refine raK2 ?_ | refine w_iteNT ?_ | refine w_iteNF ?_ | refine w_ckw ?_ | refine w_callN ?_ | refine w_m1 ?_ | refine w_yes1 ?_ | refine w_iteT ?_ | refine w_iteF ?_ | refine w_abs ?_ | refine w_max2 ?_ | refine w_max3 ?_ | refine w_min2 ?_ | refine w_intI ?_
  | (with_reducible apply w_var; with_unfolding_all rfl)
  | (with_reducible apply w_lenI; walk_at "kp")
  | (with_reducible apply w_len; walk_at "kp")
  | (with_reducible apply w_sum; walk_at "kp")
  | (with_reducible refine lstK ?_ ?_; exact Nat.le_of_ble_eq_true rfl)
  | (with_reducible refine tupK ?_ ?_; exact Nat.le_of_ble_eq_true rfl)
  | (with_reducible apply w_list; walk_at "kp")
  | (with_reducible apply w_tuple; walk_at "kp")
  | (with_reducible apply w_slI; walk_at "kp")
  | (with_reducible apply w_inI; walk_at "kp")
  | (with_reducible apply w_notInI; walk_at "kp"))
local macro_rules | `(tactic| walk_at "go") => `(tactic| repeat' (walk_at "s"))
variable {K : PySem.W.Frag} {T : List (Addr × Str)}
theorem w_slL {H : Hp} {p : Addr} {ns : List Int} {lo hi : Option Int} {Q : VK} (h : H p = some (.lst (ns.map V.int))) (q : ∀ l H', H l = none → GrA H H' → H' l = some (.lst ((cutI ns lo hi).map V.int)) → Q (.ref l) H') : rSl K (.ref p) lo hi H Q :=
  .inl ⟨p, _, rfl, sqL_of h, fun l hl => q l _ hl (.new hl) (by rw [← cutV_map]; exact upd_same)⟩
theorem cutI_drop {α : Type} (xs : List α) (m : Nat) : cutI xs (some (m : Int)) none = xs.drop m := by
  unfold cutI
  rw [HT.sIx_none, HT.sIx_nat]
  rcases Nat.le_total m xs.length with h | h
  · rw [Nat.min_eq_left h, List.take_of_length_le (by rw [List.length_drop]; exact Nat.le_refl _)]
  · rw [Nat.min_eq_right h, Nat.sub_self, List.take_zero, List.drop_eq_nil_of_le h]
/-- a pair of a shape and a number -/
def IsSh (K : PySem.W.Frag) (H : Hp) (x : V) (q : List Int × Int) : Prop := ∃ p s, x = .ref p ∧ SqT K H p [.ref s, .int q.2] ∧ SqT K H s (q.1.map V.int)
def ShAll (K : PySem.W.Frag) (H : Hp) : List V → List (List Int × Int) → Prop := Paired (IsSh K H)
theorem Gr.sh {H H' : Hp} {x : V} {q : List Int × Int} (g : Gr T H H') (h : IsSh K H x q) : IsSh K H' x q := by
  obtain ⟨p, s, e, h1, h2⟩ := h
  exact ⟨p, s, e, g.sqT h1, g.sqT h2⟩
theorem Gr.shs {H H' : Hp} (g : Gr T H H') : ∀ {xs : List V} {qs : List (List Int × Int)}, ShAll K H xs qs → ShAll K H' xs qs
  | _, _, .nil => .nil
  | _, _, .cons a b => .cons (Gr.sh g a) (Gr.shs g b)
theorem ShAll.len {H : Hp} {xs : List V} {qs : List (List Int × Int)} (h : ShAll K H xs qs) : xs.length = qs.length := Paired.length h
theorem ShAll.mem {H : Hp} : ∀ {xs : List V} {qs : List (List Int × Int)}, ShAll K H xs qs → ∀ x ∈ xs, ∃ q ∈ qs, IsSh K H x q
  | _, _, .nil, x, h => by cases h
  | _, _, .cons a b, x, h => by
    rcases List.mem_cons.mp h with z | z
    · rw [z]; exact ⟨_, List.mem_cons_self .., a⟩
    · obtain ⟨q, hq, hx⟩ := ShAll.mem b x z
      exact ⟨q, List.mem_cons_of_mem _ hq, hx⟩
theorem shAll_app {H : Hp} : ∀ {xs : List V} {qs : List (List Int × Int)} {x : V} {q : List Int × Int}, ShAll K H xs qs → IsSh K H x q → ShAll K H (xs ++ [x]) (qs ++ [q])
  | _, _, _, _, .nil, h => .cons h .nil
  | _, _, _, _, .cons a b, h => .cons a (shAll_app b h)
theorem shAll_updL {H : Hp} {M : Addr} {ys zs : List V} (hM : H M = some (.lst ys)) : ∀ {xs : List V} {qs : List (List Int × Int)}, ShAll K H xs qs → ShAll K (upd H M (.lst zs)) xs qs
  | _, _, .nil => .nil
  | _, _, .cons a b => by
    obtain ⟨p, s, e, h1, h2⟩ := a
    exact .cons ⟨p, s, e, sqT_updL h1 hM, sqT_updL h2 hM⟩ (shAll_updL hM b)
abbrev rowsX (lam : List Int) : List Int := lam ++ [0, 0]
abbrev rx (lam : List Int) (i : Nat) : Int := (rowsX lam).getD i 0
def stripH (lam : List Int) (i : Nat) : List (List Int × Int) := if rx lam (i + 1) ≤ rx lam i - 2 then [(lawCleaned ((rowsX lam).take i ++ [rx lam i - 2] ++ (rowsX lam).drop (i + 1)), 1)] else []
def stripV (lam : List Int) (i : Nat) : List (List Int × Int) := if rx lam i = rx lam (i + 1) ∧ rx lam (i + 2) ≤ rx lam i - 1 then [(lawCleaned ((rowsX lam).take i ++ [rx lam i - 1, rx lam i - 1] ++ (rowsX lam).drop (i + 2)), -1)] else []
def stripsTo (lam : List Int) (m : Nat) : List (List Int × Int) := (List.range m).flatMap fun i => stripH lam i ++ stripV lam i
theorem stripsTo_succ (lam : List Int) (m : Nat) : stripsTo lam (m + 1) = stripsTo lam m ++ stripH lam m ++ stripV lam m := by
  unfold stripsTo
  rw [List.range_succ, List.flatMap_append]
  simp
abbrev lawStrips (lam : List Int) : List (List Int × Int) := stripsTo lam lam.length
def spStrips (K : PySem.W.Frag) (T : List (Addr × Str)) : Sp := fun vs H Q _ => ∃ (a : Addr) (lam : List Int), vs = [.ref a] ∧ Sq K H a (lam.map .int) ∧ lam.length ≤ 100 ∧ ∀ l xs H', Gr T H H' → H' l = some (.lst xs) → ShAll K H' xs (lawStrips lam) → Q (.ref l) H'
theorem strip_H {D : Ends} {a M R : Addr} {lam : List Int} {i : Nat} {H0 H : Hp} {xs : List V} {qs : List (List Int × Int)} (hi : i < lam.length) (hl : lam.length ≤ 100) (g : Gr T H0 H) (nM : H0 M = none) (hne : R ≠ M) (hz : xs.length ≤ 1000)
    (hR : H R = some (.lst ((rowsX lam).map V.int))) (hM : H M = some (.lst xs)) (hS : ShAll K H xs qs)
    (k : ∀ H' xs', Gr T H0 H' → H' R = some (.lst ((rowsX lam).map V.int)) → H' M = some (.lst xs') → ShAll K H' xs' (qs ++ stripH lam i) → D.nx [some (.ref a), some (.ref M), some (.ref R), some (.int (i : Nat))] H') :
    (tIfS (tTest (tOp qGe (tOp qSub (tOp (uIx K) (tVar 2) (tVar 3)) (tC (.int 2))) (tOp (uIx K) (tVar 2) (tOp (uAdd K) (tVar 3) (tC (.int 1)))))) (tDrop (tBM K "list" rAppend (tVar 1) (tCons (tTup (tCons (tCall (spCleaned K T) [] E0 (tCons (tOp (uAdd K) (tOp (uAdd K) (tSl (rSl K) (tVar 2) tNoPart (tPart (tVar 3))) (tLst (tCons (tOp qSub (tOp (uIx K) (tVar 2) (tVar 3)) (tC (.int 2))) tNil))) (tSl (rSl K) (tVar 2) (tPart (tOp (uAdd K) (tVar 3) (tC (.int 1)))) tNoPart)) tNil)) (tCons (tC (.int 1)) tNil))) tNil))) tNext) D [some (.ref a), some (.ref M), some (.ref R), some (.int (i : Nat))] H := by
  have hX : (rowsX lam).length = lam.length + 2 := by simp
  walk_at "go"
  refine w_ixZ (sqA_of hR) (by omega) (by omega) ?_
  walk_at "go"
  refine w_ixZ (sqA_of hR) (by omega) (by omega) ?_
  walk_at "go"
  have e1 : (((i : Nat) : Int) + 1).toNat = i + 1 := by omega
  have e0 : ((i : Nat) : Int).toNat = i := by omega
  rw [e1, e0]
  refine w_dec (fun e => ?_) (fun e => ?_)
  · walk_at "go"
    refine ty_lst hM ?_
    refine w_cons (w_tupK (w_cons (w_call0 (w_cons (w_op (w_op (w_sl (w_var rfl (w_nop (w_part (w_var rfl ⟨_, rfl, ?_⟩))))))))))) 
    refine w_slL hR fun l1 H1 n1 g1 h1 => ?_
    have hR1 := (g1 T).lst hR
    walk_at "go"
    refine w_ixZ (sqA_of hR1) (by omega) (by omega) ?_
    walk_at "go"
    intro l2 H2 n2 g2 h2
    rw [cutI_take] at h1
    walk_at "go"
    refine w_cat ((g2 T).lst h1) h2 (by rw [List.length_map, List.length_take]; show _ + 1 ≤ _; omega) fun l3 H3 n3 g3 h3 => ?_
    have hR3 := (g3 T).lst ((g2 T).lst hR1)
    refine w_sl (w_var rfl (w_part (w_op (w_var rfl (w_c (w_add ⟨_, rfl, w_nop ?_⟩))))))
    refine w_slL hR3 fun l4 H4 n4 g4 h4 => ?_
    rw [show (((i : Nat) : Int) + 1) = ((i + 1 : Nat) : Int) by omega, cutI_drop] at h4
    walk_at "go"
    refine w_cat ((g4 T).lst h3) h4 (by rw [List.length_append, List.length_map, List.length_take, List.length_map, List.length_drop]; show _ + 1 + _ ≤ _; omega) fun l5 H5 n5 g5 h5 => ?_
    walk_at "go"
    refine ⟨l5, (rowsX lam).take i ++ [rx lam i - 2] ++ (rowsX lam).drop (i + 1), rfl, sqA_of (by rw [h5, e0, List.map_append, List.map_append] <;> rfl), by rw [List.length_append, List.length_append, List.length_take, List.length_drop]; show _ + 1 + _ ≤ _; omega, fun s H6 g6 h6 => ?_⟩
    walk_at "go"
    intro p H7 np g7 h7
    walk_at "go"
    have gg : Gr T H H7 := ((((((g1 T).trans (g2 T)).trans (g3 T)).trans (g4 T)).trans (g5 T)).trans g6).trans (g7 T)
    have hM7 := gg.lst hM
    refine w_append hM7 (by omega) ?_
    walk_at "go"
    have hq := shAll_app (shAll_updL (zs := xs ++ [V.ref p]) hM7 (Gr.shs gg hS)) (show IsSh K (upd H7 M (.lst (xs ++ [V.ref p]))) (.ref p) (lawCleaned ((rowsX lam).take i ++ [rx lam i - 2] ++ (rowsX lam).drop (i + 1)), 1) from ⟨p, s, rfl, sqT_updL (sqT_of h7) hM7, sqT_updL ((g7 T).sqT h6) hM7⟩)
    refine k _ _ ((g.trans gg).set nM hM7) (by rw [upd_ne hne]; exact gg.lst hR) upd_same ?_
    unfold stripH
    rw [if_pos e]
    exact hq
  · walk_at "go"
    refine k _ _ g hR hM ?_
    unfold stripH
    rw [if_neg e, List.append_nil]
    exact hS
theorem strip_V {D : Ends} {a M R : Addr} {lam : List Int} {i : Nat} {H0 H : Hp} {xs : List V} {qs : List (List Int × Int)} (hi : i < lam.length) (hl : lam.length ≤ 100) (g : Gr T H0 H) (nM : H0 M = none) (hne : R ≠ M) (hz : xs.length ≤ 1000)
    (hR : H R = some (.lst ((rowsX lam).map V.int))) (hM : H M = some (.lst xs)) (hS : ShAll K H xs qs)
    (k : ∀ H' xs', Gr T H0 H' → H' R = some (.lst ((rowsX lam).map V.int)) → H' M = some (.lst xs') → ShAll K H' xs' (qs ++ stripV lam i) → D.nx [some (.ref a), some (.ref M), some (.ref R), some (.int (i : Nat))] H') :
    (tIfS (tAnd (tTest (tOp (uEq K) (tOp (uIx K) (tVar 2) (tVar 3)) (tOp (uIx K) (tVar 2) (tOp (uAdd K) (tVar 3) (tC (.int 1)))))) (tTest (tOp qGe (tOp qSub (tOp (uIx K) (tVar 2) (tVar 3)) (tC (.int 1))) (tOp (uIx K) (tVar 2) (tOp (uAdd K) (tVar 3) (tC (.int 2))))))) (tDrop (tBM K "list" rAppend (tVar 1) (tCons (tTup (tCons (tCall (spCleaned K T) [] E0 (tCons (tOp (uAdd K) (tOp (uAdd K) (tSl (rSl K) (tVar 2) tNoPart (tPart (tVar 3))) (tLst (tCons (tOp qSub (tOp (uIx K) (tVar 2) (tVar 3)) (tC (.int 1))) (tCons (tOp qSub (tOp (uIx K) (tVar 2) (tVar 3)) (tC (.int 1))) tNil)))) (tSl (rSl K) (tVar 2) (tPart (tOp (uAdd K) (tVar 3) (tC (.int 2)))) tNoPart)) tNil)) (tCons (tOp qSub (tC (.int 0)) (tC (.int 1))) tNil))) tNil))) tNext) D [some (.ref a), some (.ref M), some (.ref R), some (.int (i : Nat))] H := by
  have hX : (rowsX lam).length = lam.length + 2 := by simp
  walk_at "go"
  refine w_ixZ (sqA_of hR) (by omega) (by omega) ?_
  walk_at "go"
  refine w_ixZ (sqA_of hR) (by omega) (by omega) ?_
  walk_at "go"
  have e1 : (((i : Nat) : Int) + 1).toNat = i + 1 := by omega
  have e2 : (((i : Nat) : Int) + 2).toNat = i + 2 := by omega
  have e0 : ((i : Nat) : Int).toNat = i := by omega
  rw [e1, e0]
  refine w_dec (fun ea => ?_) (fun ea => ?_)
  · walk_at "go"
    refine w_ixZ (sqA_of hR) (by omega) (by omega) ?_
    walk_at "go"
    refine w_ixZ (sqA_of hR) (by omega) (by omega) ?_
    walk_at "go"
    rw [e2, e0]
    refine w_dec (fun e => ?_) (fun e => ?_)
    · walk_at "go"
      refine ty_lst hM ?_
      refine w_cons (w_tupK (w_cons (w_call0 (w_cons (w_op (w_op (w_sl (w_var rfl (w_nop (w_part (w_var rfl ⟨_, rfl, ?_⟩))))))))))) 
      refine w_slL hR fun l1 H1 n1 g1 h1 => ?_
      have hR1 := (g1 T).lst hR
      walk_at "go"
      refine w_ixZ (sqA_of hR1) (by omega) (by omega) ?_
      walk_at "go"
      refine w_ixZ (sqA_of hR1) (by omega) (by omega) ?_
      walk_at "go"
      intro l2 H2 n2 g2 h2
      rw [cutI_take] at h1
      walk_at "go"
      refine w_cat ((g2 T).lst h1) h2 (by rw [List.length_map, List.length_take]; show _ + 2 ≤ _; omega) fun l3 H3 n3 g3 h3 => ?_
      have hR3 := (g3 T).lst ((g2 T).lst hR1)
      refine w_sl (w_var rfl (w_part (w_op (w_var rfl (w_c (w_add ⟨_, rfl, w_nop ?_⟩))))))
      refine w_slL hR3 fun l4 H4 n4 g4 h4 => ?_
      rw [show (((i : Nat) : Int) + 2) = ((i + 2 : Nat) : Int) by omega, cutI_drop] at h4
      walk_at "go"
      refine w_cat ((g4 T).lst h3) h4 (by rw [List.length_append, List.length_map, List.length_take, List.length_map, List.length_drop]; show _ + 2 + _ ≤ _; omega) fun l5 H5 n5 g5 h5 => ?_
      walk_at "go"
      refine ⟨l5, (rowsX lam).take i ++ [rx lam i - 1, rx lam i - 1] ++ (rowsX lam).drop (i + 2), rfl, sqA_of (by rw [h5, e0, List.map_append, List.map_append] <;> rfl), by rw [List.length_append, List.length_append, List.length_take, List.length_drop]; show _ + 2 + _ ≤ _; omega, fun s H6 g6 h6 => ?_⟩
      walk_at "go"
      intro p H7 np g7 h7
      walk_at "go"
      have gg : Gr T H H7 := ((((((g1 T).trans (g2 T)).trans (g3 T)).trans (g4 T)).trans (g5 T)).trans g6).trans (g7 T)
      have hM7 := gg.lst hM
      refine w_append hM7 (by omega) ?_
      walk_at "go"
      have hq := shAll_app (shAll_updL (zs := xs ++ [V.ref p]) hM7 (Gr.shs gg hS)) (show IsSh K (upd H7 M (.lst (xs ++ [V.ref p]))) (.ref p) (lawCleaned ((rowsX lam).take i ++ [rx lam i - 1, rx lam i - 1] ++ (rowsX lam).drop (i + 2)), -1) from ⟨p, s, rfl, sqT_updL (sqT_of h7) hM7, sqT_updL ((g7 T).sqT h6) hM7⟩)
      refine k _ _ ((g.trans gg).set nM hM7) (by rw [upd_ne hne]; exact gg.lst hR) upd_same ?_
      unfold stripV
      rw [if_pos ⟨ea, e⟩]
      exact hq
    · walk_at "go"
      refine k _ _ g hR hM ?_
      unfold stripV
      rw [if_neg (fun z => e z.2), List.append_nil]
      exact hS
  · walk_at "go"
    refine k _ _ g hR hM ?_
    unfold stripV
    rw [if_neg (fun z => ea z.1), List.append_nil]
    exact hS
theorem rd_law_strips : ∀ vs H Q (E : XK), spStrips K T vs H Q E → t__law_strips K (spCleaned K T) (E_ Q) (start ["lam", "made", "rows", "i"] vs) H := by
  intro vs H Q E h
  obtain ⟨a, lam, rfl, hs, hl, q⟩ := h
  unfold t__law_strips
  walk_at "go"
  intro M H1 nM g1 h1
  have hs1 : Sq K H1 a (List.map V.int lam) := (g1 T).sq hs
  walk_at "go"
  intro l H2 nl g2 h2
  walk_at "go"
  intro z H3 nz g3 h3
  walk_at "go"
  refine w_cat ((g3 T).lst h2) h3 (by rw [List.length_map]; show _ + 2 ≤ _; omega) fun R H4 nR g4 h4 => ?_
  have hM4 : H4 M = some (.lst []) := (g4 T).lst ((g3 T).lst ((g2 T).lst h1))
  have hne : R ≠ M := fun e => by
    have := (g3 T).lst ((g2 T).lst h1)
    rw [← e, nR] at this
    cases this
  have hs4 : Sq K H4 a (List.map V.int lam) := (((g2 T).trans (g3 T)).trans (g4 T)).sq hs1
  have g04 : Gr T H H4 := (((g1 T).trans (g2 T)).trans (g3 T)).trans (g4 T)
  have hR4 : H4 R = some (.lst ((rowsX lam).map V.int)) := by rw [h4, List.map_append] <;> rfl
  walk_at "go"
  have bd : ∀ m, (stripsTo lam m).length ≤ 2 * m := by
    intro m
    induction m with
    | zero => exact Nat.le_refl _
    | succ m ih =>
      rw [stripsTo_succ, List.length_append, List.length_append]
      have h1 : (stripH lam m).length ≤ 1 := by unfold stripH; split <;> simp
      have h2 : (stripV lam m).length ≤ 1 := by unfold stripV; split <;> simp
      omega
  refine fr_R1 (by omega) (by omega) (fun i σ H' => ∃ u3 xs, σ = [some (.ref a), some (.ref M), some (.ref R), u3] ∧ Gr T H H' ∧ H' R = some (.lst ((rowsX lam).map V.int)) ∧ H' M = some (.lst xs) ∧ ShAll K H' xs (stripsTo lam i)) ⟨_, [], rfl, g04, hR4, hM4, .nil⟩ (fun i σ' H' hi p => ?_) (fun σ' H' p => ?_)
  · obtain ⟨u3, xs, rfl, g, hR, hM, hS⟩ := p
    have hi' : i < lam.length := by omega
    have b := bd i
    have hx := hS.len
    refine w_gname (w_seq ?_)
    refine strip_H hi' hl g nM hne (by omega) hR hM hS fun H5 xs5 g5 hR5 hM5 hS5 => ?_
    have hx5 := hS5.len
    have h1 : (stripH lam i).length ≤ 1 := by unfold stripH; split <;> simp
    rw [List.length_append] at hx5
    refine strip_V hi' hl g5 nM hne (by omega) hR5 hM5 hS5 fun H6 xs6 g6 hR6 hM6 hS6 => ?_
    refine ⟨_, xs6, rfl, g6, hR6, hM6, ?_⟩
    rw [stripsTo_succ]
    exact hS6
  · obtain ⟨u3, xs, rfl, g, hR, hM, hS⟩ := p
    walk_at "go"
    exact q M xs H' g hM hS
end K20
end
section
set_option Elab.async false
set_option linter.all false
set_option maxRecDepth 100000
set_option maxHeartbeats 4000000
namespace K20
open PySem PySem.Spec PyProof.Rows L2 LamX U Evl L2H HotX LHot LX LV NdefX
/-! ### steps, by program -/
local macro_rules | `(tactic| walk_at "kp") => `(tactic| first
  | assumption
  | exact sqA_of (by assumption)
  | exact sqB_of (by assumption)
  | exact sqL_of (by assumption)
  | exact sqT_of (by assumption)
  | exact Or.inl (by assumption)
  | exact Or.inr (by assumption)
  | exact Gr.refl _ _
  | exact GrA.gr (by assumption)
  | (apply Gr.trans ?_ (by first | assumption | exact GrA.gr (by assumption)); walk_at "kp")
  | (apply Gr.xd; (first | assumption | exact GrA.gr (T := []) (by assumption)); walk_at "kp")
  | (apply Gr.sq; (first | assumption | exact GrA.gr (T := []) (by assumption)); walk_at "kp")
  | (apply Gr.sqL; (first | assumption | exact GrA.gr (T := []) (by assumption)); walk_at "kp")
  | (apply Gr.sqT; (first | assumption | exact GrA.gr (T := []) (by assumption)); walk_at "kp")
  | (apply Gr.lst; (first | assumption | exact GrA.gr (T := []) (by assumption)); walk_at "kp")
  | (apply Gr.tup; (first | assumption | exact GrA.gr (T := []) (by assumption)); walk_at "kp"))
local macro_rules | `(tactic| walk_at "s") => `(tactic| first
  | with_reducible first
    | refine w_seq ?_ | refine w_asg ?_ | refine w_gname ?_ | refine w_if ?_ | refine w_ret ?_ | refine w_next ?_ | refine w_drop ?_ | refine w_retN ?_ | refine w_brk ?_ | refine w_cont ?_ | refine w_gsub ?_
    | refine w_op ?_ | refine w_c ?_ | refine w_nil ?_ | refine w_cons ?_ | refine w_cb ?_ | refine w_un ?_
    | refine w_I0 ?_ | refine w_U ?_ | refine w_add ?_ | refine w_test ?_ | refine w_tB ?_ | refine w_tr ?_ | refine w_exn ?_ | refine w_trn ?_ | refine w_and ?_ | refine w_or ?_ | refine w_not ?_ | refine w_andV ?_ | refine w_orV ?_ | refine w_notV ?_ | refine w_ifE ?_
    | refine w_eqI ?_ | refine w_neI ?_ | refine w_eqS ?_ | refine w_neS ?_ | refine w_eqB ?_ | refine w_neB ?_ | refine w_isNo ?_ | refine w_notN ?_
    | refine w_call0 ?_ | refine w_tupK ?_ | refine w_lstK ?_ | refine w_bm ?_ | refine w_nop ?_ | refine w_part ?_ | refine w_exi ?_ | refine w_sl ?_
    | refine w_lcS ?_ | refine w_lcR1 ?_ | refine w_lcR2 ?_ | refine w_lcE ?_ | refine w_frS ?_ | refine w_frR1 ?_ | refine w_frR2 ?_ | refine w_frE ?_ | refine w_frT ?_
    | refine w_tYes ?_ | refine w_lcH ?_ | refine w_callE ?_ | refine w_iteD ?_ | refine w_iteND ?_ | refine w_raise ?_ | refine raK1 ?_ | refine raK2 ?_ | refine w_iteNT ?_ | refine w_iteNF ?_ | refine w_ckw ?_ | refine w_callN ?_ | refine w_m1 ?_ | refine w_yes1 ?_ | refine w_iteT ?_ | refine w_iteF ?_ | refine w_abs ?_ | refine w_max2 ?_ | refine w_max3 ?_ | refine w_min2 ?_ | refine w_intI ?_
  | (with_reducible apply w_var; with_unfolding_all rfl)
  | (with_reducible apply w_lenI; walk_at "kp")
  | (with_reducible apply w_len; walk_at "kp")
  | (with_reducible apply w_sum; walk_at "kp")
  | (with_reducible refine lstK ?_ ?_; exact Nat.le_of_ble_eq_true rfl)
  | (with_reducible refine tupK ?_ ?_; exact Nat.le_of_ble_eq_true rfl)
  | (with_reducible apply w_list; walk_at "kp")
  | (with_reducible apply w_tuple; walk_at "kp")
  | (with_reducible apply w_slI; walk_at "kp")
  | (with_reducible apply w_inI; walk_at "kp")
  | (with_reducible apply w_notInI; walk_at "kp"))
local macro_rules | `(tactic| walk_at "go") => `(tactic| repeat' (walk_at "s"))
variable {K : PySem.W.Frag} {T : List (Addr × Str)}
/-! comparing a list of ways with the empty list -/
def shData (q : List Int × Int) : PyData := .tuple [.tuple (q.1.map PyData.int), .int q.2]
theorem dp_shs {H : Hp} : ∀ {xs : List V} {qs : List (List Int × Int)}, ShAll K H xs qs → DpAll K H xs (qs.map shData)
  | _, _, .nil => .nil
  | _, _, .cons a b => by
    obtain ⟨p, s, rfl, h1, h2⟩ := a
    exact .cons (.tup h1 (.cons (.tup h2 (dp_ints _)) (.cons (.int _) .nil))) (dp_shs b)
theorem lay_sh : ∀ qs : List (List Int × Int), PyData.canLayAll0 (qs.map shData) = true
  | [] => rfl
  | q :: r => by
    show (_ && PyData.canLayAll0 (r.map shData)) = true
    rw [lay_sh r, Bool.and_true]
    show (PyData.canLayAll0 (q.1.map PyData.int) && _) = true
    rw [lay_ints]
    rfl
theorem depth0 : ∀ ns : List Int, PyData.depthAll (ns.map PyData.int) = 0
  | [] => rfl
  | n :: r => by
    show max _ (PyData.depthAll (r.map PyData.int)) = 0
    rw [depth0 r]
    rfl
theorem depth_sh : ∀ qs : List (List Int × Int), PyData.depthAll (qs.map shData) ≤ 2
  | [] => by decide
  | q :: r => by
    show max (PyData.depth (shData q)) (PyData.depthAll (r.map shData)) ≤ 2
    have h1 := depth_sh r
    have h2 : PyData.depth (shData q) = 2 := by
      show max (PyData.depthAll (q.1.map PyData.int) + 1) (max 0 0) + 1 = 2
      rw [depth0]
      rfl
    omega
theorem w_eqSh {H : Hp} {Q : VK} {p r : Addr} {xs : List V} {qs : List (List Int × Int)} (h1 : SqL K H p xs) (hS : ShAll K H xs qs) (h2 : SqL K H r []) (k : Q (.bl qs.isEmpty) H) : uEq K (.ref p) (.ref r) H Q := by
  refine ⟨.list (qs.map shData), .list [], .lst h1 (dp_shs hS), .lst h2 .nil, ?_, rfl, ?_⟩
  · unfold SeqAt.shaped
    have a1 : (PyData.list (qs.map shData)).canLay0 = true := lay_sh qs
    have a2 : (PyData.list (qs.map shData)).depth ≤ 64 := by
      have := depth_sh qs
      have e : (PyData.list (qs.map shData)).depth = PyData.depthAll (qs.map shData) + 1 := rfl
      omega
    rw [a1, decide_eq_true a2] <;> rfl
  · have e : PyData.eqv (.list (qs.map shData)) (.list []) = qs.isEmpty := by cases qs <;> rfl
    rw [e]
    exact k
structure MathC : Prop where
  step : ∀ lam q, Part lam → q ∈ lawStrips lam → Part q.1 ∧ coreRows q.1 = coreRows lam ∧ q.1.sum = lam.sum - 2
  done : ∀ lam, Part lam → lawStrips lam = [] → coreRows lam = lam
def spCoreOf (K : PySem.W.Frag) (T : List (Addr × Str)) : Sp := fun vs H Q _ => ∃ (J a : Addr) (lam : List Int), vs = [.ref J, .ref a] ∧ Jar K H J ∧ SqT K H a (lam.map V.int) ∧ Part lam ∧ lam.sum ≤ 30 ∧ ∀ l H', Gr T H H' → SqT K H' l ((coreRows lam).map V.int) → Part (coreRows lam) → (coreRows lam).sum ≤ 30 → coreRows (coreRows lam) = coreRows lam → Q (.ref l) H'
theorem rd_law_core_of (M : MathC) : ∀ vs H Q (E : XK), spCoreOf K T vs H Q E → t__law_core_of K (spStrips K T) (spPick K) (E_ Q) (start ["jar", "lam", "turn", "ways"] vs) H := by
  intro vs H Q E h
  obtain ⟨J, a, lam, rfl, hj, hs, hp, hz, q⟩ := h
  unfold t__law_core_of
  walk_at "go"
  have fin : ∀ (m : Addr) (mu : List Int) (H' : Hp), Gr T H H' → SqT K H' m (mu.map V.int) → Part mu → coreRows mu = coreRows lam → mu.sum ≤ 30 → lawStrips mu = [] → Q (.ref m) H' := by
    intro m mu H' g hm pm hc hz2 he
    have e := M.done mu pm he
    rw [hc] at e
    rw [e] at q
    exact q m H' g hm pm hz2 (by rw [e] at hc; exact hc)
  refine fr_R1 (by decide) (by decide) (fun i σ H' => ∃ m mu u2 u3, σ = [some (.ref J), some (.ref m), u2, u3] ∧ Gr T H H' ∧ SqT K H' m (List.map V.int mu) ∧ Part mu ∧ coreRows mu = coreRows lam ∧ mu.sum ≤ 30 - 2 * (i : Int)) ⟨a, lam, _, _, rfl, Gr.refl _ _, hs, hp, rfl, by omega⟩ (fun i σ' H' hi p => ?_) (fun σ' H' p => ?_)
  · obtain ⟨m, mu, u2, u3, rfl, g, hm, pm, hc, hb⟩ := p
    have hl := len_le_sum pm.pos
    walk_at "go"
    refine ⟨m, mu, rfl, .inr hm, by omega, fun l xs H2 g2 hl2 hS => ?_⟩
    walk_at "go"
    intro z H3 nz g3 h3
    walk_at "go"
    have hS3 := Gr.shs (g3 T) hS
    have hl3 := (g3 T).lst hl2
    refine w_eqSh (sqL_of hl3) hS3 (sqL_of h3) ?_
    walk_at "go"
    have g03 := (g.trans g2).trans (g3 T)
    refine w_bool (fun e => ?_) (fun e => ?_)
    · walk_at "go"
      exact fin m mu H3 g03 ((g2.trans (g3 T)).sqT hm) pm hc (by omega) (List.isEmpty_iff.mp e)
    · walk_at "go"
      have hn : 0 < (lawStrips mu).length := by
        cases hq : lawStrips mu with
        | nil => rw [hq] at e; cases e
        | cons x r => exact Nat.succ_pos _
      have hx : xs.length = (stripsTo mu mu.length).length := hS3.len
      have hn : 0 < (stripsTo mu mu.length).length := hn
      have bd : ∀ k, (stripsTo mu k).length ≤ 2 * k := by
        intro m
        induction m with
        | zero => exact Nat.le_refl _
        | succ m ih =>
          rw [stripsTo_succ, List.length_append, List.length_append]
          have h1 : (stripH mu m).length ≤ 1 := by unfold stripH; split <;> simp
          have h2 : (stripV mu m).length ≤ 1 := by unfold stripV; split <;> simp
          omega
      have b := bd mu.length
      refine ⟨J, l, xs, rfl, g03.jar hj, sqA_of hl3, by omega, by omega, fun x hx => ?_⟩
      obtain ⟨r, hr, p, s, rfl, hp2, hs2⟩ := hS3.mem x hx
      refine w_ix (.inr hp2) (by decide) rfl ?_
      walk_at "go"
      obtain ⟨m1, m2, m3⟩ := M.step mu r pm hr
      exact ⟨s, r.1, _, _, rfl, g03, hs2, m1, m2.trans hc, by omega⟩
  · obtain ⟨m, mu, u2, u3, rfl, g, hm, pm, hc, hb⟩ := p
    have := sum_nonneg pm.nn
    have e : (((16 : Int).toNat : Nat) : Int) = 16 := rfl
    rw [e] at hb
    omega
/-! hooks walked -/
section
variable {K : PySem.W.Frag} {T : List (Addr × Str)} {σ : L2.St} {H1 : Hp} {Q : VK} {vs : List Nat} {tt : L2.TT} {te : TE} {j : Nat}
theorem given_len {n : Nat} {f : Nat → Bool} {v u : Nat → V} : (given n f v).length = (given n f u).length := by
  unfold given
  rw [List.length_map, List.length_map]
theorem lc_PQ {a : Addr} {xs : List V} {qs : List (Int × Int)} (hs : SqL K H1 a xs) (hp : PrAll K H1 xs qs) (f : Int × Int → Bool) (hz : qs.length ≤ 100000) (hw : ∀ x, wipe ((wipe σ vs).set j (some x)) vs = wipe σ vs)
    (hst : ∀ x q, q ∈ qs → ∀ H2, Gr T H1 H2 → IsPr K H2 x q → Turn1 T tt te ((wipe σ vs).set j (some x)) H2 (f q) x)
    (fin : ∀ D H3 ys, Gr T H1 H3 → H1 D = none → H3 D = some (.lst ys) → ys.length = (qs.filter f).length → Q (.ref D) H3) :
    LcS K (gName j) tt te vs σ Q (.ref a) H1 := by
  refine ⟨a, rfl, .inl ⟨xs, hs, lcG (T := T) (yl_list hs) (by rw [hp.len]; exact hz) (fun i => (qs[i]?).elim false f) (fun i => (xs[i]?).getD .non) (fun i x H2 R hi gr e k => ?_) (fun D H3 g3 hD h3 => fin D H3 _ g3 hD h3 ?_)⟩⟩
  · obtain ⟨q, hq, hp2⟩ := hp.get e
    refine k _ (hw _) ?_
    rw [hq]
    have e2 : (xs[i]?).getD .non = x := by rw [e]; rfl
    rw [e2]
    exact hst x q (List.mem_of_getElem? hq) H2 gr (gr.pr hp2)
  · rw [given_len (u := fun i => (qs[i]?).elim .non fun _ => .non), hp.len, given_opt, List.length_map]
end
def walkHook (lam : List Int) (i j : Int) : Int := (((cellsTo lam lam.length).filter fun q => (decide (q.1 = i) && decide (j ≤ q.2)) || (decide (q.2 = j) && decide (i < q.1))).length : Int)
def walkHooks (lam : List Int) : List Int := sortUp ((cellsTo lam lam.length).map fun q => walkHook lam q.1 q.2)
def spWalked (K : PySem.W.Frag) (T : List (Addr × Str)) : Sp := fun vs H Q _ => ∃ (a : Addr) (lam : List Int), vs = [.ref a] ∧ Sq K H a (lam.map V.int) ∧ lam.length ≤ 100 ∧ (∀ x ∈ lam, 0 ≤ x ∧ x ≤ 100) ∧ ∀ l H', Gr T H H' → H l = none → H' l = some (.lst ((walkHooks lam).map V.int)) → Q (.ref l) H'
theorem rd_law_hooks_walked : ∀ vs H Q (E : XK), spWalked K T vs H Q E → t__law_hooks_walked K (spCells K T) (E_ Q) (start ["lam", "places", "i", "j", "one"] vs) H := by
  intro vs H Q E h
  obtain ⟨a, lam, rfl, hs, hl, ht, q⟩ := h
  have hb := cellsTo_len lam (fun x hx => (ht x hx).2) lam.length
  unfold t__law_hooks_walked
  walk_at "go"
  refine ⟨a, lam, rfl, hs, hl, ht, fun l xs H1 g1 h1 hS => ?_⟩
  walk_at "go"
  refine lc_P (T := T) (sqL_of h1) hS (fun _ => true) (fun q => .int (walkHook lam q.1 q.2)) (by omega) (fun _ _ => rfl) (fun q hq H2 g2 Yes No hy hn => ?_) (fun D H2 g2 nD h2 => ?_)
  · have h12 := g2.lst h1
    have hS2 := Gr.prs g2 hS
    walk_at "go"
    refine lc_PQ (T := T) (sqL_of h12) hS2 (fun r => (decide (r.1 = q.1) && decide (q.2 ≤ r.2)) || (decide (r.2 = q.2) && decide (q.1 < r.1))) (by omega) (fun _ => rfl) (fun x r hr H3 g3 hx Yes2 No2 hy2 hn2 => ?_) (fun D H3 ys g3 nD h3 hlen => ?_)
    · obtain ⟨p, rfl, hp⟩ := hx
      walk_at "go"
      refine w_ix (.inr hp) (by decide) rfl ?_
      walk_at "go"
      have yes : ∀ H4, Gr T H3 H4 → ((decide (r.1 = q.1) && decide (q.2 ≤ r.2)) || (decide (r.2 = q.2) && decide (q.1 < r.1))) = true → Yes2 (.ref p) H4 := fun H4 g4 e => hy2 e H4 g4
      have no : ∀ H4, Gr T H3 H4 → ((decide (r.1 = q.1) && decide (q.2 ≤ r.2)) || (decide (r.2 = q.2) && decide (q.1 < r.1))) = false → No2 H4 := fun H4 g4 e => hn2 e H4 g4
      refine w_dec (fun a1 => ?_) (fun a1 => ?_)
      · walk_at "go"
        refine w_ix (.inr hp) (by decide) rfl ?_
        walk_at "go"
        refine w_dec (fun b1 => ?_) (fun b1 => ?_)
        · walk_at "go"
          exact yes _ (Gr.refl _ _) (by simp [a1, b1] <;> omega)
        · walk_at "go"
          refine w_ix (.inr hp) (by decide) rfl ?_
          walk_at "go"
          refine w_dec (fun c => ?_) (fun c => ?_)
          · walk_at "go"
            refine w_ix (.inr hp) (by decide) rfl ?_
            walk_at "go"
            refine w_dec (fun d => ?_) (fun d => ?_)
            · walk_at "go"
              exact yes _ (Gr.refl _ _) (by simp [a1, b1, c, d] <;> omega)
            · walk_at "go"
              exact no _ (Gr.refl _ _) (by simp [a1, b1, c, d] <;> omega)
          · walk_at "go"
            exact no _ (Gr.refl _ _) (by simp [a1, b1, c] <;> omega)
      · walk_at "go"
        refine w_ix (.inr hp) (by decide) rfl ?_
        walk_at "go"
        refine w_dec (fun c => ?_) (fun c => ?_)
        · walk_at "go"
          refine w_ix (.inr hp) (by decide) rfl ?_
          walk_at "go"
          refine w_dec (fun d => ?_) (fun d => ?_)
          · walk_at "go"
            exact yes _ (Gr.refl _ _) (by simp [a1, c, d] <;> omega)
          · walk_at "go"
            exact no _ (Gr.refl _ _) (by simp [a1, c, d] <;> omega)
        · walk_at "go"
          exact no _ (Gr.refl _ _) (by simp [a1, c] <;> omega)
    · walk_at "go"
      have e : (ys.length : Int) = walkHook lam q.1 q.2 := by rw [hlen]; rfl
      rw [e]
      exact hy rfl _ g3
  · walk_at "go"
    rw [List.filter_eq_self.mpr (fun _ _ => rfl)] at h2
    refine ⟨D, (cellsTo lam lam.length).map fun q => walkHook lam q.1 q.2, rfl, sqL_of (by rw [h2, List.map_map] <;> rfl), fun ns' s hp hw ns => ?_⟩
    have e := sortUp_of hp hw
    have g12 := g1.trans g2
    refine q s _ (g12.trans (Gr.new ns)) (g12.free s ns) ?_
    rw [upd_same, e]
    rfl
end K20
end
section
set_option Elab.async false
set_option linter.all false
set_option maxRecDepth 100000
set_option maxHeartbeats 4000000
namespace K20
open PySem PySem.Spec PyProof.Rows L2 LamX U Evl L2H HotX LHot LX LV NdefX
/-! ### steps, by program -/
local macro_rules | `(tactic| walk_at "kp") => `(tactic| first
  | assumption
  | exact sqA_of (by assumption)
  | exact sqB_of (by assumption)
  | exact sqL_of (by assumption)
  | exact sqT_of (by assumption)
  | exact Or.inl (by assumption)
  | exact Or.inr (by assumption)
  | exact Gr.refl _ _
  | exact GrA.gr (by assumption)
  | (apply Gr.trans ?_ (by first | assumption | exact GrA.gr (by assumption)); walk_at "kp")
  | (apply Gr.xd; (first | assumption | exact GrA.gr (T := []) (by assumption)); walk_at "kp")
  | (apply Gr.sq; (first | assumption | exact GrA.gr (T := []) (by assumption)); walk_at "kp")
  | (apply Gr.sqL; (first | assumption | exact GrA.gr (T := []) (by assumption)); walk_at "kp")
  | (apply Gr.sqT; (first | assumption | exact GrA.gr (T := []) (by assumption)); walk_at "kp")
  | (apply Gr.lst; (first | assumption | exact GrA.gr (T := []) (by assumption)); walk_at "kp")
  | (apply Gr.tup; (first | assumption | exact GrA.gr (T := []) (by assumption)); walk_at "kp"))
local macro_rules | `(tactic| walk_at "s") => `(tactic| first
  | with_reducible first
    | refine w_seq ?_ | refine w_asg ?_ | refine w_gname ?_ | refine w_if ?_ | refine w_ret ?_ | refine w_next ?_ | refine w_drop ?_ | refine w_retN ?_ | refine w_brk ?_ | refine w_cont ?_ | refine w_gsub ?_
    | refine w_op ?_ | refine w_c ?_ | refine w_nil ?_ | refine w_cons ?_ | refine w_cb ?_ | refine w_un ?_
    | refine w_I0 ?_ | refine w_U ?_ | refine w_add ?_ | refine w_test ?_ | refine w_tB ?_ | refine w_tr ?_ | refine w_exn ?_ | refine w_trn ?_ | refine w_and ?_ | refine w_or ?_ | refine w_not ?_ | refine w_andV ?_ | refine w_orV ?_ | refine w_notV ?_ | refine w_ifE ?_
    | refine w_eqI ?_ | refine w_neI ?_ | refine w_eqS ?_ | refine w_neS ?_ | refine w_eqB ?_ | refine w_neB ?_ | refine w_isNo ?_ | refine w_notN ?_
    | refine w_call0 ?_ | refine w_tupK ?_ | refine w_lstK ?_ | refine w_bm ?_ | refine w_nop ?_ | refine w_part ?_ | refine w_exi ?_ | refine w_sl ?_
    | refine w_lcS ?_ | refine w_lcR1 ?_ | refine w_lcR2 ?_ | refine w_lcE ?_ | refine w_frS ?_ | refine w_frR1 ?_ | refine w_frR2 ?_ | refine w_frE ?_ | refine w_frT ?_
    | refine w_tYes ?_ | refine w_lcH ?_ | refine w_callE ?_ | refine w_iteD ?_ | refine w_iteND ?_ | refine w_raise ?_ | refine raK1 ?_ | refine raK2 ?_ | refine w_iteNT ?_ | refine w_iteNF ?_ | refine w_ckw ?_ | refine w_callN ?_ | refine w_m1 ?_ | refine w_yes1 ?_ | refine w_iteT ?_ | refine w_iteF ?_ | refine w_abs ?_ | refine w_max2 ?_ | refine w_max3 ?_ | refine w_min2 ?_ | refine w_intI ?_
  | (with_reducible apply w_var; with_unfolding_all rfl)
  | (with_reducible apply w_lenI; walk_at "kp")
  | (with_reducible apply w_len; walk_at "kp")
  | (with_reducible apply w_sum; walk_at "kp")
  | (with_reducible refine lstK ?_ ?_; exact Nat.le_of_ble_eq_true rfl)
  | (with_reducible refine tupK ?_ ?_; exact Nat.le_of_ble_eq_true rfl)
  | (with_reducible apply w_list; walk_at "kp")
  | (with_reducible apply w_tuple; walk_at "kp")
  | (with_reducible apply w_slI; walk_at "kp")
  | (with_reducible apply w_inI; walk_at "kp")
  | (with_reducible apply w_notInI; walk_at "kp"))
local macro_rules | `(tactic| walk_at "go") => `(tactic| repeat' (walk_at "s"))
variable {K : PySem.W.Frag} {T : List (Addr × Str)}
theorem w_callK0 {m : Nat} {sp : Sp} {gV : List V → List V} {E : XK} {tk : TA} {σ : L2.St} {H : Hp} {Q : VK} (h : tk σ H fun zs H2 => zs.length = m ∧ sp (gV zs) H2 Q E) : tCallK0 m sp gV E tk σ H Q := h
structure MathP : Prop where
  cjp : ∀ lam, Part lam → Part (lawColumns lam)
  cjs : ∀ lam, Part lam → (lawColumns lam).sum = lam.sum
  cjcj : ∀ lam, Part lam → lawColumns (lawColumns lam) = lam
  hooks : ∀ lam, Part lam → walkHooks lam = sortUp (foundHooks lam)
  hookscj : ∀ lam, Part lam → sortUp (foundHooks (lawColumns lam)) = sortUp (foundHooks lam)
  falls : ∀ lam n, Part lam → siteFalls lam n = !lawIsGap lam n
  fallscj : ∀ lam n, Part lam → siteFalls (lawColumns lam) (0 - 1 - n) = lawIsGap lam n
  gaps : ∀ lam low, Part lam → gapsFrom lam low = (rgI low (lam.headD 0 + 1)).filter (lawIsGap lam)
section
variable {H : Hp} {Q : VK} {E : XK} {v : V} {lam : List Int}
theorem no_wrong (hp : Part lam) {w : Nat} {P : Prop} (e : wrongAt none (lam.map V.int) 0 = some w) : P := by rw [hp.ok] at e; cases e
theorem read_ok (hv : RowsArg K H v (lam.map V.int)) (hp : Part lam) (hz : lam.sum ≤ 30) (q : ∀ a H', Gr T H H' → SqT K H' a (lam.map V.int) → Q (.ref a) H') : spReadShape K T [v] H Q E := by
  refine ⟨v, _, rfl, hv, fun w e => no_wrong hp e, fun rows _ er => ?_⟩
  have er := map_int_inj er
  subst er
  have := len_le_sum hp.pos
  exact ⟨by omega, fun e => by omega, fun _ a H' g h => q a H' g h⟩
theorem turned_ok (hv : RowsArg K H v (lam.map V.int)) (hp : Part lam) (hz : lam.sum ≤ 30) (q : ∀ a H', Gr T H H' → SqT K H' a ((lawColumns lam).map V.int) → Q (.ref a) H') : spTurned K T [v] H Q E := by
  refine ⟨v, _, rfl, hv, fun w e => no_wrong hp e, fun rows _ er => ?_⟩
  have er := map_int_inj er
  subst er
  exact ⟨hp, hz, fun a H' g h => q a H' g h⟩
theorem hooks_ok (hv : RowsArg K H v (lam.map V.int)) (hp : Part lam) (hz : lam.sum ≤ 30) (q : ∀ l H', Gr T H H' → H l = none → H' l = some (.lst ((sortUp (foundHooks lam)).map V.int)) → Q (.ref l) H') : spHooksP K T [v] H Q E := by
  refine ⟨v, _, rfl, hv, fun w e => no_wrong hp e, fun rows _ er => ?_⟩
  have er := map_int_inj er
  subst er
  exact ⟨hp, hz, fun a H' g n h => q a H' g n h⟩
theorem core_ok (hv : RowsArg K H v (lam.map V.int)) (hp : Part lam) (hz : lam.sum ≤ 30) (q : ∀ a H', Gr T H H' → SqT K H' a ((coreRows lam).map V.int) → Q (.ref a) H') : spCore K T [v] H Q E := by
  refine ⟨v, _, rfl, hv, fun w e => no_wrong hp e, fun rows _ er => ?_⟩
  have er := map_int_inj er
  subst er
  have := len_le_sum hp.pos
  exact ⟨by omega, fun e => by omega, fun _ a H' g h => q a H' g h⟩
theorem falling_ok {site : Int} (hv : RowsArg K H v (lam.map V.int)) (hp : Part lam) (hz : lam.sum ≤ 30) (hs : site.natAbs ≤ 60) (q : ∀ H', Gr T H H' → Q (.bl (siteFalls lam site)) H') : spFalling K T [v, .int site] H Q E := by
  refine ⟨v, _, site, rfl, hv, fun w e => no_wrong hp e, fun rows _ er => ?_⟩
  have er := map_int_inj er
  subst er
  have := len_le_sum hp.pos
  exact ⟨by omega, fun e => by omega, fun _ => ⟨hz, fun H' g => q H' g⟩⟩
theorem gaps_ok {low : Int} (hv : RowsArg K H v (lam.map V.int)) (hp : Part lam) (hz : lam.sum ≤ 30) (hs : low.natAbs ≤ 60) (q : ∀ l H', Gr T H H' → H l = none → H' l = some (.lst ((gapsFrom lam low).map V.int)) → Q (.ref l) H') : spGaps K T [v, .int low] H Q E := by
  refine ⟨v, _, low, rfl, hv, fun w e => no_wrong hp e, fun rows _ er => ?_⟩
  have er := map_int_inj er
  subst er
  have := len_le_sum hp.pos
  exact ⟨by omega, fun e => by omega, fun _ => ⟨hz, fun l H' g n h => q l H' g n h⟩⟩
end
theorem flat_intsT {n : Nat} (l : List Int) : Flat (n + 1) (.tuple (l.map PyData.int)) := .tup fun d hd => by
  obtain ⟨i, _, rfl⟩ := List.mem_map.mp hd
  exact .int i
theorem short_intsT {l : List Int} (h : l.length ≤ 10000) : Short (.tuple (l.map PyData.int)) := .tup (by rw [List.length_map]; exact h) fun d hd => by
  obtain ⟨i, _, rfl⟩ := List.mem_map.mp hd
  exact .int i
theorem flat_intsL {n : Nat} (l : List Int) : Flat (n + 1) (.list (l.map PyData.int)) := .lst fun d hd => by
  obtain ⟨i, _, rfl⟩ := List.mem_map.mp hd
  exact .int i
theorem short_intsL {l : List Int} (h : l.length ≤ 10000) : Short (.list (l.map PyData.int)) := .lst (by rw [List.length_map]; exact h) fun d hd => by
  obtain ⟨i, _, rfl⟩ := List.mem_map.mp hd
  exact .int i
theorem like_tups {H : Hp} {Q : VK} {E : XK} {a b : Addr} {l : List Int} (ha : SqT K H a (l.map V.int)) (hb : SqT K H b (l.map V.int)) (hl : l.length ≤ 10000) (q : ∀ H', Gr T H H' → Q (.bl true) H') : spLikeN K T 4 [.ref a, .ref b] H Q E :=
  ⟨_, _, _, rfl, flat_intsT (n := 2) l, short_intsT hl, .tup ha (dp_ints l), .tup hb (dp_ints l), q⟩
theorem like_lsts {H : Hp} {Q : VK} {E : XK} {a b : Addr} {l : List Int} (ha : H a = some (.lst (l.map V.int))) (hb : H b = some (.lst (l.map V.int))) (hl : l.length ≤ 10000) (q : ∀ H', Gr T H H' → Q (.bl true) H') : spLikeN K T 4 [.ref a, .ref b] H Q E :=
  ⟨_, _, _, rfl, flat_intsL (n := 2) l, short_intsL hl, .lst (sqL_of ha) (dp_ints l), .lst (sqL_of hb) (dp_ints l), q⟩
theorem like_bls {H : Hp} {Q : VK} {E : XK} {b : Bool} (q : ∀ H', Gr T H H' → Q (.bl true) H') : spLikeN K T 4 [.bl b, .bl b] H Q E :=
  ⟨_, _, .bool b, rfl, .bl b, .bl b, .bl b, .bl b, q⟩
def spParts (K : PySem.W.Frag) (T : List (Addr × Str)) : Sp := fun vs H Q _ => ∃ (J a : Addr) (lam : List Int), vs = [.ref J, .ref a] ∧ Jar K H J ∧ SqT K H a (lam.map V.int) ∧ Part lam ∧ lam.sum ≤ 30 ∧ ∀ H', Gr T H H' → Q (.bl true) H'
theorem rd_law_parts_told (M : MathP) : ∀ vs H Q (E : XK), spParts K T vs H Q E → t__law_parts_told K (spLikeN K T 4) (spReadShape K T) (spStairIn K T) (spColumns K T) (spTurned K T) (spWalked K T) (spHooksP K T) (spCoreOf K T) (spCore K T) (E_ Q) (start ["jar", "lam", "rows", "due", "told", "left"] vs) H := by
  intro vs H Q E h
  obtain ⟨J, a, lam, rfl, hj, hs, hp, hz, q⟩ := h
  obtain ⟨b1, b2⟩ := part_bd hp hz
  have s0 : Sq K H a (lam.map V.int) := .inr hs
  unfold t__law_parts_told
  walk_at "go"
  intro R H1 nR g1 hR
  have g01 := g1 T
  walk_at "go"
  refine ⟨J, a, lam, rfl, g01.jar hj, g01.sqT hs, hp, by omega, fun v H2 g2 hv => ?_⟩
  have g02 := g01.trans g2
  walk_at "go"
  refine read_ok hv hp hz fun s H3 g3 h3 => ?_
  have g03 := g02.trans g3
  walk_at "go"
  refine like_tups h3 (g03.sqT hs) (by omega) fun H4 g4 => ?_
  have g04 := g03.trans g4
  have g14 := (g2.trans g3).trans g4
  walk_at "go"
  refine turned_ok (rowsArg_ints (sqA_of (g14.lst hR)) (by omega)) hp hz fun t H5 g5 h5 => ?_
  have g05 := g04.trans g5
  walk_at "go"
  refine ⟨a, lam, rfl, .inr (g05.sqT hs), by omega, fun x hx => by have := b2 x hx; omega, fun c H6 g6 h6 => ?_⟩
  have g06 := g05.trans g6
  have lc := cols_len (lam := lam)
  have hd0 : lam.headD 0 ≤ 30 := by
    cases lam with
    | nil => decide
    | cons x r => exact (b2 x (List.mem_cons_self ..)).2
  walk_at "go"
  refine like_tups (g6.sqT h5) h6 (by omega) fun H7 g7 => ?_
  have g07 := g06.trans g7
  walk_at "go"
  refine ⟨a, lam, rfl, .inr (g07.sqT hs), by omega, fun x hx => by have := b2 x hx; omega, fun W H8 g8 nW hW => ?_⟩
  have g08 := g07.trans g8
  have g18 := ((g14.trans g5).trans g6).trans (g7.trans g8)
  have hR8 := g18.lst hR
  walk_at "go"
  refine hooks_ok (rowsArg_ints (sqA_of hR8) (by omega)) hp hz fun L H9 g9 nL hL => ?_
  have g09 := g08.trans g9
  have hR9 := g9.lst hR8
  have hW9 := g9.lst hW
  have s9 : Sq K H9 a (lam.map V.int) := .inr (g09.sqT hs)
  walk_at "go"
  intro R2 H10 nR2 g10 hR2
  walk_at "go"
  refine w_neL (sqL_of ((g10 T).lst hR9)) (sqL_of hR2) ?_
  walk_at "go"
  have hW10 := (g10 T).lst hW9
  have hL10 := (g10 T).lst hL
  rw [M.hooks lam hp] at hW10
  have hlen : (sortUp (foundHooks lam)).length ≤ 3000 := by
    rw [sortUp_len]
    unfold foundHooks
    rw [List.length_map]
    have := cellsTo_len lam (fun x hx => by have := b2 x hx; omega) lam.length
    omega
  refine like_lsts hL10 hW10 (by omega) fun H11 g11 => ?_
  have g0B := (g09.trans (g10 T)).trans g11
  have hL11 := g11.lst hL10
  walk_at "go"
  refine ty_lst hL11 ?_
  walk_at "go"
  refine w_append hL11 (by rw [List.length_map]; omega) ?_
  have g8B : Gr T H8 H11 := (g9.trans (g10 T)).trans g11
  have nL8 : H8 L = none := nL
  have g8C := g8B.set nL8 hL11 (ys := (List.map V.int (sortUp (foundHooks lam))) ++ [V.int 0])
  have g0C := g08.trans g8C
  have hWC := g8C.lst hW
  rw [M.hooks lam hp] at hWC
  generalize upd H11 L (.lst (List.map V.int (sortUp (foundHooks lam)) ++ [V.int 0])) = HC at g8C g0C hWC ⊢
  walk_at "go"
  refine w_callK0 ?_
  walk_at "go"
  refine ⟨J, a, lam, rfl, g0C.jar hj, g0C.sqT hs, hp, by omega, fun v2 HD gD hv2 => ?_⟩
  walk_at "go"
  refine ⟨rfl, ?_⟩
  refine hooks_ok hv2 hp hz fun L2 HE gE nL2 hL2 => ?_
  have gCE := gD.trans gE
  walk_at "go"
  refine like_lsts hL2 (gCE.lst hWC) (by omega) fun HF gF => ?_
  have g0F := g0C.trans (gCE.trans gF)
  walk_at "go"
  refine ⟨J, a, lam, rfl, g0F.jar hj, g0F.sqT hs, hp, hz, fun c2 HG gG hc2 pc zc cc => ?_⟩
  have g0G := g0F.trans gG
  have pcl := len_le_sum pc.pos
  walk_at "go"
  refine ⟨J, a, lam, rfl, g0G.jar hj, g0G.sqT hs, hp, by omega, fun v3 HI gI hv3 => ?_⟩
  walk_at "go"
  refine core_ok hv3 hp hz fun c3 HJ gJ hc3 => ?_
  walk_at "go"
  have gGJ := gI.trans gJ
  refine like_tups hc3 (gGJ.sqT hc2) (by omega) fun HK gK => ?_
  have gGK := gGJ.trans gK
  walk_at "go"
  refine core_ok (rowsArg_ints (.inr (gGK.sqT hc2)) (by omega)) pc zc fun c4 HL gL4 hc4 => ?_
  rw [cc] at hc4
  have gGL := gGK.trans gL4
  walk_at "go"
  refine like_tups hc4 (gGL.sqT hc2) (by omega) fun HM gM => ?_
  have gGM := gGL.trans gM
  have g0M := g0G.trans gGM
  walk_at "go"
  refine w_callK0 ?_
  walk_at "go"
  refine ⟨a, lam, rfl, .inr (g0M.sqT hs), by omega, fun x hx => by have := b2 x hx; omega, fun c5 HN gN hc5 => ?_⟩
  have pj := M.cjp lam hp
  have zj : (lawColumns lam).sum ≤ 30 := by rw [M.cjs lam hp]; exact hz
  walk_at "go"
  refine ⟨rfl, ?_⟩
  refine turned_ok (rowsArg_ints (.inr hc5) (by omega)) pj zj fun c6 HO gO hc6 => ?_
  rw [M.cjcj lam hp] at hc6
  have g0O := g0M.trans (gN.trans gO)
  walk_at "go"
  refine like_tups hc6 (g0O.sqT hs) (by omega) fun HP gP => ?_
  have g0P := g0O.trans gP
  walk_at "go"
  refine ⟨a, lam, rfl, .inr (g0P.sqT hs), by omega, fun x hx => by have := b2 x hx; omega, fun c7 HQ gQ hc7 => ?_⟩
  walk_at "go"
  refine hooks_ok (rowsArg_ints (.inr hc7) (by omega)) pj zj fun L3 HR gR nL3 hL3 => ?_
  rw [M.hookscj lam hp] at hL3
  walk_at "go"
  have gCR : Gr T HC HR := (((((((gCE.trans gF).trans gG).trans gGM).trans gN).trans gO).trans gP).trans gQ).trans gR
  refine like_lsts hL3 (gCR.lst hWC) (by omega) fun HS gS => ?_
  exact q HS (g0C.trans (gCR.trans gS))
end K20
end
section
set_option Elab.async false
set_option linter.all false
set_option maxRecDepth 100000
set_option maxHeartbeats 4000000
namespace K20
open PySem PySem.Spec PyProof.Rows L2 LamX U Evl L2H HotX LHot LX LV NdefX
/-! ### steps, by program -/
local macro_rules | `(tactic| walk_at "kp") => `(tactic| first
  | assumption
  | exact sqA_of (by assumption)
  | exact sqB_of (by assumption)
  | exact sqL_of (by assumption)
  | exact sqT_of (by assumption)
  | exact Or.inl (by assumption)
  | exact Or.inr (by assumption)
  | exact Gr.refl _ _
  | exact GrA.gr (by assumption)
  | (apply Gr.trans ?_ (by first | assumption | exact GrA.gr (by assumption)); walk_at "kp")
  | (apply Gr.xd; (first | assumption | exact GrA.gr (T := []) (by assumption)); walk_at "kp")
  | (apply Gr.sq; (first | assumption | exact GrA.gr (T := []) (by assumption)); walk_at "kp")
  | (apply Gr.sqL; (first | assumption | exact GrA.gr (T := []) (by assumption)); walk_at "kp")
  | (apply Gr.sqT; (first | assumption | exact GrA.gr (T := []) (by assumption)); walk_at "kp")
  | (apply Gr.lst; (first | assumption | exact GrA.gr (T := []) (by assumption)); walk_at "kp")
  | (apply Gr.tup; (first | assumption | exact GrA.gr (T := []) (by assumption)); walk_at "kp"))
local macro_rules | `(tactic| walk_at "s") => `(tactic| first
  | with_reducible first
    | refine w_seq ?_ | refine w_asg ?_ | refine w_gname ?_ | refine w_if ?_ | refine w_ret ?_ | refine w_next ?_ | refine w_drop ?_ | refine w_retN ?_ | refine w_brk ?_ | refine w_cont ?_ | refine w_gsub ?_
    | refine w_op ?_ | refine w_c ?_ | refine w_nil ?_ | refine w_cons ?_ | refine w_cb ?_ | refine w_un ?_
    | refine w_I0 ?_ | refine w_U ?_ | refine w_add ?_ | refine w_test ?_ | refine w_tB ?_ | refine w_tr ?_ | refine w_exn ?_ | refine w_trn ?_ | refine w_and ?_ | refine w_or ?_ | refine w_not ?_ | refine w_andV ?_ | refine w_orV ?_ | refine w_notV ?_ | refine w_ifE ?_
    | refine w_eqI ?_ | refine w_neI ?_ | refine w_eqS ?_ | refine w_neS ?_ | refine w_eqB ?_ | refine w_neB ?_ | refine w_isNo ?_ | refine w_notN ?_
    | refine w_call0 ?_ | refine w_tupK ?_ | refine w_lstK ?_ | refine w_bm ?_ | refine w_nop ?_ | refine w_part ?_ | refine w_exi ?_ | refine w_sl ?_
    | refine w_lcS ?_ | refine w_lcR1 ?_ | refine w_lcR2 ?_ | refine w_lcE ?_ | refine w_frS ?_ | refine w_frR1 ?_ | refine w_frR2 ?_ | refine w_frE ?_ | refine w_frT ?_
    | refine w_tYes ?_ | refine w_lcH ?_ | refine w_callE ?_ | refine w_iteD ?_ | refine w_iteND ?_ | refine w_raise ?_ | refine raK1 ?_ | refine raK2 ?_ | refine w_iteNT ?_ | refine w_iteNF ?_ | refine w_ckw ?_ | refine w_callN ?_ | refine w_m1 ?_ | refine w_yes1 ?_ | refine w_iteT ?_ | refine w_iteF ?_ | refine w_abs ?_ | refine w_max2 ?_ | refine w_max3 ?_ | refine w_min2 ?_ | refine w_intI ?_
  | (with_reducible apply w_var; with_unfolding_all rfl)
  | (with_reducible apply w_lenI; walk_at "kp")
  | (with_reducible apply w_len; walk_at "kp")
  | (with_reducible apply w_sum; walk_at "kp")
  | (with_reducible refine lstK ?_ ?_; exact Nat.le_of_ble_eq_true rfl)
  | (with_reducible refine tupK ?_ ?_; exact Nat.le_of_ble_eq_true rfl)
  | (with_reducible apply w_list; walk_at "kp")
  | (with_reducible apply w_tuple; walk_at "kp")
  | (with_reducible apply w_slI; walk_at "kp")
  | (with_reducible apply w_inI; walk_at "kp")
  | (with_reducible apply w_notInI; walk_at "kp"))
local macro_rules | `(tactic| walk_at "go") => `(tactic| repeat' (walk_at "s"))
variable {K : PySem.W.Frag} {T : List (Addr × Str)}
theorem w_top {σ : L2.St} {H : Hp} {Q : VK} {a : Addr} {lam : List Int} (h1 : σ[1]? = some (some (.ref a))) (hs : Sq K H a (lam.map V.int)) (q : Q (.int (lam.headD 0)) H) :
    tIf (tTest (tOp qGt (tCB (uLen K) (tCons (tVar 1) tNil)) (tC (.int 0)))) (tOp (uIx K) (tVar 1) (tC (.int 0))) (tC (.int 0)) σ H Q := by
  refine w_ifE (w_test (w_op (w_cb (w_cons (w_var h1 (w_nil (w_lenI hs (w_c (w_I0 ⟨_, rfl, ?_⟩)))))))))
  refine w_dec (fun e => ?_) (fun e => ?_)
  · refine w_op (w_var h1 (w_c (w_ixZ hs (by decide) (by omega) ?_)))
    have e2 : lam.getD (Int.toNat 0) 0 = lam.headD 0 := by cases lam <;> rfl
    rw [e2]
    exact q
  · have : lam = [] := List.eq_nil_of_length_eq_zero (by omega)
    subst this
    exact w_c q
theorem rd_law_sites_told (M : MathP) : ∀ vs H Q (E : XK), spParts K T vs H Q E → t__law_sites_told K (spSpot K) (spIsGap K T) (spLikeN K T 4) (spFalling K T) (spStairIn K T) (spColumns K T) (spPick K) (spGaps K T) (E_ Q) (start ["jar", "lam", "turn", "start", "n", "due", "top", "told"] vs) H := by
  intro vs H Q E h
  obtain ⟨J, a, lam, rfl, hj, hs, hp, hz, q⟩ := h
  obtain ⟨b1, b2⟩ := part_bd hp hz
  have hd0 : 0 ≤ lam.headD 0 ∧ lam.headD 0 ≤ 30 := by
    cases lam with
    | nil => decide
    | cons x r =>
      have := b2 x (List.mem_cons_self ..)
      show 0 ≤ x ∧ x ≤ 30
      omega
  have lc := cols_len (lam := lam)
  have pj := M.cjp lam hp
  have zj : (lawColumns lam).sum ≤ 30 := by rw [M.cjs lam hp]; exact hz
  unfold t__law_sites_told
  walk_at "go"
  refine fr_R1 (by decide) (by decide) (fun i σ H' => ∃ u2 u3 u4 u5 u6 u7, σ = [some (.ref J), some (.ref a), u2, u3, u4, u5, u6, u7] ∧ Gr T H H') ⟨_, _, _, _, _, _, rfl, Gr.refl _ _⟩ (fun i σ' H1 hi p => ?_) (fun σ' H1 p => ?_)
  · obtain ⟨u2, u3, u4, u5, u6, u7, rfl, g1⟩ := p
    walk_at "go"
    refine ⟨J, a, lam, rfl, g1.jar hj, .inr (g1.sqT hs), hp, by omega, fun n hn => ?_⟩
    walk_at "go"
    refine ⟨a, lam, n, rfl, .inr (g1.sqT hs), by omega, fun H2 g2 => ?_⟩
    have g02 := g1.trans g2
    walk_at "go"
    refine ⟨J, a, lam, rfl, g02.jar hj, g02.sqT hs, hp, by omega, fun v H3 g3 hv => ?_⟩
    have g03 := g02.trans g3
    walk_at "go"
    refine falling_ok hv hp hz hn fun H4 g4 => ?_
    rw [M.falls lam n hp]
    have g04 := g03.trans g4
    walk_at "go"
    refine like_bls fun H5 g5 => ?_
    have g05 := g04.trans g5
    walk_at "go"
    refine w_dec (fun e => ?_) (fun e => ?_)
    · walk_at "go"
      refine w_callK0 ?_
      walk_at "go"
      refine ⟨a, lam, rfl, .inr (g05.sqT hs), by omega, fun x hx => by have := b2 x hx; omega, fun c H6 g6 hc => ?_⟩
      walk_at "go"
      refine ⟨rfl, ?_⟩
      refine falling_ok (site := 0 - 1 - n) (rowsArg_ints (.inr hc) (by omega)) pj zj (by omega) fun H7 g7 => ?_
      rw [M.fallscj lam n hp]
      have g07 := g05.trans (g6.trans g7)
      walk_at "go"
      rw [Bool.not_not]
      refine like_bls fun H8 g8 => ?_
      walk_at "go"
      exact ⟨_, _, _, _, _, _, rfl, g07.trans g8⟩
    · walk_at "go"
      exact ⟨_, _, _, _, _, _, rfl, g05⟩
  · obtain ⟨u2, u3, u4, u5, u6, u7, rfl, g1⟩ := p
    walk_at "go"
    refine ⟨J, a, lam, rfl, g1.jar hj, .inr (g1.sqT hs), hp, by omega, fun n1 hn1 => ?_⟩
    walk_at "go"
    intro m H2 nm g2 h2
    walk_at "go"
    refine ⟨J, m, _, rfl, (g2 T).jar (g1.jar hj), sqA_of h2, by decide, by decide, fun x hx => ?_⟩
    have hx2 : ∃ n2 : Int, x = .int n2 ∧ n2.natAbs ≤ 60 := by
      simp only [List.mem_cons, List.not_mem_nil, or_false] at hx
      rcases hx with rfl | rfl | rfl | rfl <;> exact ⟨_, rfl, by decide⟩
    obtain ⟨n2, rfl, hn2⟩ := hx2
    have g02 := g1.trans (g2 T)
    have s2 : Sq K H2 a (lam.map V.int) := .inr (g02.sqT hs)
    walk_at "go"
    intro D HD nD gD hD
    have g0D := g02.trans (gD T)
    walk_at "go"
    refine fr_S (T := T) (sqA_of hD) (fun _ σ' H' => Gr T HD H' ∧ ∃ u2 u3 u4 u5 u6 u7, σ' = [some (.ref J), some (.ref a), u2, u3, u4, u5, u6, u7]) ⟨Gr.refl _ _, _, _, _, _, _, _, rfl⟩ (fun i σ' H' p => p.1) (fun i x σ' H3 hx p => ?_) (fun σ' H3 p => ?_)
    · obtain ⟨gp, u2, u3, u4, u5, u6, u7, rfl⟩ := p
      have hx2 : ∃ st : Int, x = .int st ∧ st.natAbs ≤ 60 := by
        rcases i with _ | _ | _ | i
        · cases hx; exact ⟨_, rfl, hn1⟩
        · cases hx; exact ⟨_, rfl, hn2⟩
        · cases hx; exact ⟨_, rfl, by omega⟩
        · cases hx
      obtain ⟨st, rfl, hst⟩ := hx2
      have g03 := g0D.trans gp
      have s3 : Sq K H3 a (lam.map V.int) := .inr (g03.sqT hs)
      refine w_gname (w_seq (w_asg (w_top (lam := lam) rfl s3 (w_gname ?_))))
      walk_at "go"
      refine lc_R2 (T := T) (lawIsGap lam) V.int (by omega) (by omega) (by omega) (by omega) (fun _ => rfl) (fun k k0 k1 H4 g4 Yes No hy hn => ?_) (fun W H4 g4 nW hW => ?_)
      · walk_at "go"
        refine ⟨a, lam, k, rfl, .inr (g4.sqT (g03.sqT hs)), by omega, fun H5 g5 => ?_⟩
        walk_at "go"
        refine w_bool (fun e => ?_) (fun e => ?_)
        · walk_at "go"
          exact hy e _ g5
        · exact hn e _ g5
      · have g04 := g03.trans g4
        walk_at "go"
        refine ⟨J, a, lam, rfl, g04.jar hj, g04.sqT hs, hp, by omega, fun v H5 g5 hv => ?_⟩
        walk_at "go"
        refine gaps_ok hv hp hz hst fun L H6 g6 nL hL => ?_
        rw [M.gaps lam st hp] at hL
        have g46 := g5.trans g6
        have hlen : ((rgI st (lam.headD 0 + 1)).filter (lawIsGap lam)).length ≤ 200 := by
          refine Nat.le_trans (List.length_filter_le _ _) ?_
          rw [rgI_len]
          omega
        walk_at "go"
        refine like_lsts hL (g46.lst hW) (by omega) fun H7 g7 => ?_
        have g47 := g46.trans g7
        have hL7 := g7.lst hL
        walk_at "go"
        refine ty_lst hL7 ?_
        walk_at "go"
        refine w_append hL7 (by rw [List.length_map]; omega) ?_
        have g4C := (g47).set (g5.free L nL) hL7 (ys := (List.map V.int ((rgI st (lam.headD 0 + 1)).filter (lawIsGap lam))) ++ [V.int 99])
        generalize upd H7 L (.lst (List.map V.int ((rgI st (lam.headD 0 + 1)).filter (lawIsGap lam)) ++ [V.int 99])) = HC at g4C ⊢
        have hWC := g4C.lst hW
        have g0C := g04.trans g4C
        walk_at "go"
        refine w_callK0 ?_
        walk_at "go"
        refine ⟨rfl, ?_⟩
        refine gaps_ok (v := .ref a) (low := st) (rowsArg_ints (.inr (g0C.sqT hs)) (by omega)) hp hz hst fun L2 HE gE nL2 hL2 => ?_
        rw [M.gaps lam st hp] at hL2
        walk_at "go"
        refine like_lsts hL2 (gE.lst hWC) (by omega) fun HF gF => ?_
        walk_at "go"
        exact ⟨gp.trans (g4.trans (g4C.trans (gE.trans gF))), _, _, _, _, _, _, rfl⟩
    · obtain ⟨gp, u2, u3, u4, u5, u6, u7, rfl⟩ := p
      walk_at "go"
      exact q H3 (g0D.trans gp)
end K20
end
section
set_option Elab.async false
set_option linter.all false
set_option maxRecDepth 100000
namespace K20
open PySem PySem.Spec PyProof.Rows L2 U
/-! ### gaps of partitions -/
def gp (lam : List Int) (i : Nat) : Int := lam.getD i 0 - 1 - i
def IsG (lam : List Int) (x : Int) : Prop := ∃ i : Nat, x = gp lam i
theorem gd_mono : ∀ {l : List Int}, l.Pairwise (· ≥ ·) → (∀ x ∈ l, 0 ≤ x) → ∀ i j : Nat, i ≤ j → l.getD j 0 ≤ l.getD i 0 ∧ 0 ≤ l.getD j 0
  | [], _, _, i, j, _ => by simp
  | x :: t, hd, h0, i, j, h => by
    have ht := List.pairwise_cons.mp hd
    have h0t : ∀ y ∈ t, 0 ≤ y := fun y hy => h0 y (List.mem_cons_of_mem _ hy)
    have hx := h0 x (List.mem_cons_self ..)
    have IH := gd_mono ht.2 h0t
    have top : ∀ k, t.getD k 0 ≤ x := fun k => by
      by_cases hk : k < t.length
      · rw [List.getD_eq_getElem?_getD, List.getElem?_eq_getElem hk]
        exact ht.1 _ (List.getElem_mem hk)
      · rw [List.getD_eq_getElem?_getD, List.getElem?_eq_none (by omega)]
        exact hx
    cases j with
    | zero =>
      have : i = 0 := by omega
      subst this
      simp only [List.getD_cons_zero]
      omega
    | succ j =>
      cases i with
      | zero =>
        simp only [List.getD_cons_zero, List.getD_cons_succ]
        exact ⟨top j, (IH j j (Nat.le_refl _)).2⟩
      | succ i =>
        simp only [List.getD_cons_succ]
        exact IH i j (by omega)
theorem Part.mono {lam : List Int} (p : Part lam) : ∀ i j : Nat, i ≤ j → lam.getD j 0 ≤ lam.getD i 0 ∧ 0 ≤ lam.getD j 0 := gd_mono p.desc p.nn
theorem gd_out {lam : List Int} {i : Nat} (h : lam.length ≤ i) : lam.getD i 0 = 0 := by
  rw [List.getD_eq_getElem?_getD, List.getElem?_eq_none h]; rfl
theorem Part.one {lam : List Int} (p : Part lam) {i : Nat} (h : i < lam.length) : 1 ≤ lam.getD i 0 := by
  rw [List.getD_eq_getElem?_getD, List.getElem?_eq_getElem h]
  exact p.pos _ (List.getElem_mem h)
theorem gp_lt {lam : List Int} (p : Part lam) {i j : Nat} (h : i < j) : gp lam j < gp lam i := by
  have := p.mono i j (by omega)
  unfold gp
  omega
theorem gp_ge {lam : List Int} (p : Part lam) (i : Nat) : -1 - (i : Int) ≤ gp lam i := by
  have := p.mono i i (by omega)
  unfold gp
  omega
theorem gp_out {lam : List Int} {i : Nat} (h : lam.length ≤ i) : gp lam i = -1 - (i : Int) := by
  unfold gp
  rw [gd_out h]
  omega
theorem gp_inj {lam : List Int} (p : Part lam) {i j : Nat} (h : gp lam i = gp lam j) : i = j := by
  rcases Nat.lt_trichotomy i j with z | z | z
  · have := gp_lt p z; omega
  · exact z
  · have := gp_lt p z; omega
/-- the same gaps: the same partition -/
theorem part_ext {lam mu : List Int} (p : Part lam) (q : Part mu) (h : ∀ x, IsG lam x ↔ IsG mu x) : lam = mu := by
  have key : ∀ i, gp lam i = gp mu i := by
    intro i
    induction i using Nat.strongRecOn with
    | ind i ih =>
      have le : ∀ {a b : List Int}, Part a → Part b → (∀ x, IsG a x → IsG b x) → (∀ k < i, gp a k = gp b k) → gp a i ≤ gp b i := fun {a b} pa pb hab hk => by
        obtain ⟨k, e⟩ := hab _ ⟨i, rfl⟩
        rcases Nat.lt_trichotomy k i with z | z | z
        · rw [← hk k z] at e
          have := gp_inj pa e
          omega
        · rw [e, z]; exact Int.le_refl _
        · have := gp_lt pb z
          omega
      have h1 := le p q (fun x => (h x).mp) ih
      have h2 := le q p (fun x => (h x).mpr) fun k hk => (ih k hk).symm
      omega
  have gd : ∀ i, lam.getD i 0 = mu.getD i 0 := fun i => by
    have := key i
    unfold gp at this
    omega
  have hl : lam.length = mu.length := by
    rcases Nat.lt_trichotomy lam.length mu.length with z | z | z
    · have := q.one z
      rw [← gd, gd_out (Nat.le_refl _)] at this
      omega
    · exact z
    · have := p.one z
      rw [gd, gd_out (Nat.le_refl _)] at this
      omega
  refine List.ext_getElem hl fun i h1 h2 => ?_
  have := gd i
  rw [List.getD_eq_getElem?_getD, List.getD_eq_getElem?_getD, List.getElem?_eq_getElem h1, List.getElem?_eq_getElem h2] at this
  exact this
/-- the first gaps -/
def gapsTo (lam : List Int) (m : Nat) : List Int := (List.range m).map (gp lam)
theorem gapsTo_len (lam : List Int) (m : Nat) : (gapsTo lam m).length = m := by
  unfold gapsTo; rw [List.length_map, List.length_range]
theorem gapsTo_pw {lam : List Int} (p : Part lam) (m : Nat) : (gapsTo lam m).Pairwise (· > ·) := by
  unfold gapsTo
  rw [List.pairwise_map]
  exact List.pairwise_lt_range.imp fun h => gp_lt p h
theorem mem_gapsTo {lam : List Int} (p : Part lam) {m : Nat} (hm : lam.length ≤ m) {x : Int} : x ∈ gapsTo lam m ↔ IsG lam x ∧ -(m : Int) ≤ x := by
  unfold gapsTo
  rw [List.mem_map]
  constructor
  · rintro ⟨i, hi, rfl⟩
    have := List.mem_range.mp hi
    have := gp_ge p i
    exact ⟨⟨i, rfl⟩, by omega⟩
  · rintro ⟨⟨i, rfl⟩, h⟩
    refine ⟨i, List.mem_range.mpr ?_, rfl⟩
    by_cases hi : i < m
    · exact hi
    · have := gp_out (lam := lam) (i := i) (by omega)
      omega
theorem isG_low {lam : List Int} {x : Int} (h : x < -(lam.length : Int)) : IsG lam x := ⟨(-1 - x).toNat, by rw [gp_out (by omega)]; omega⟩
theorem firstGaps_eq {lam : List Int} {m : Nat} (hm : lam.length ≤ m) : firstGaps lam m = gapsTo lam m := by
  refine List.ext_getElem? fun i => ?_
  unfold firstGaps gapsTo
  rw [List.getElem?_map, List.getElem?_map, List.getElem?_zipIdx]
  by_cases hi : i < m
  · rw [List.getElem?_range hi]
    by_cases h2 : i < lam.length
    · rw [List.getElem?_append_left h2, List.getElem?_eq_getElem h2]
      simp only [Option.map_some, gp, List.getD_eq_getElem?_getD, List.getElem?_eq_getElem h2, Option.getD_some]
      congr 1
      omega
    · rw [List.getElem?_append_right (by omega), List.getElem?_replicate, if_pos (by omega)]
      simp only [Option.map_some, gp, gd_out (Nat.le_of_not_lt h2)]
      congr 1
      omega
  · rw [List.getElem?_eq_none (by simp; omega), List.getElem?_eq_none (by simp; omega)]
    rfl
/-- a falling row that is not below 0, without its noughts -/
theorem filter_pos : ∀ {f : List Int}, f.Pairwise (· ≥ ·) → (∀ x ∈ f, 0 ≤ x) → Part (f.filter fun n => decide (0 < n)) ∧ ∀ i, (f.filter fun n => decide (0 < n)).getD i 0 = f.getD i 0
  | [], _, _ => ⟨⟨List.Pairwise.nil, fun _ h => by cases h⟩, fun _ => rfl⟩
  | x :: t, hd, h0 => by
    have ht := List.pairwise_cons.mp hd
    have h0t : ∀ y ∈ t, 0 ≤ y := fun y hy => h0 y (List.mem_cons_of_mem _ hy)
    have IH := filter_pos ht.2 h0t
    have hx := h0 x (List.mem_cons_self ..)
    by_cases hp : 0 < x
    · rw [List.filter_cons_of_pos (by simpa using hp)]
      refine ⟨⟨List.pairwise_cons.mpr ⟨fun y hy => ht.1 y (List.mem_filter.mp hy).1, IH.1.desc⟩, fun y hy => ?_⟩, fun i => ?_⟩
      · rcases List.mem_cons.mp hy with z | z
        · omega
        · exact IH.1.pos y z
      · cases i with
        | zero => rfl
        | succ i => simp only [List.getD_cons_succ]; exact IH.2 i
    · have hz : ∀ y ∈ t, ¬ 0 < y := fun y hy => by have := ht.1 y hy; omega
      have e : (x :: t).filter (fun n => decide (0 < n)) = [] := by
        rw [List.filter_eq_nil_iff]
        intro y hy
        rcases List.mem_cons.mp hy with z | z
        · rw [z]; simpa using hp
        · simpa using hz y z
      rw [e]
      refine ⟨⟨List.Pairwise.nil, fun _ h => by cases h⟩, fun i => ?_⟩
      have all : ∀ y ∈ x :: t, y = 0 := fun y hy => by
        rcases List.mem_cons.mp hy with z | z
        · omega
        · have := hz y z; have := h0t y z; omega
      by_cases hi : i < (x :: t).length
      · have := all _ (List.getElem_mem hi)
        rw [List.getD_eq_getElem?_getD (l := x :: t), List.getElem?_eq_getElem hi, this]
        rfl
      · rw [gd_out (Nat.le_of_not_lt hi)]
        rfl
/-- what a strictly falling row of gaps says -/
theorem low_of_pw : ∀ {r : List Int}, r.Pairwise (· > ·) → ∀ b : Int, (∀ x ∈ r, b ≤ x) → ∀ i : Nat, (h : i < r.length) → b + ((r.length : Int) - 1 - i) ≤ r[i]
  | [], _, _, _, _, h => by simp at h
  | x :: t, hd, b, hb, i, h => by
    have ht := List.pairwise_cons.mp hd
    have IH := low_of_pw ht.2 b fun y hy => hb y (List.mem_cons_of_mem _ hy)
    cases i with
    | zero =>
      simp only [List.getElem_cons_zero, List.length_cons]
      cases t with
      | nil =>
        have := hb x (List.mem_cons_self ..)
        simp
        omega
      | cons y u =>
        have h1 := IH 0 (by simp)
        have h2 := ht.1 y (List.mem_cons_self ..)
        simp only [List.getElem_cons_zero, List.length_cons] at h1 ⊢
        omega
    | succ i =>
      have h1 := IH i (by simpa using h)
      simp only [List.getElem_cons_succ, List.length_cons]
      omega
def rowsOf (r : List Int) : List Int := r.zipIdx.map fun p : Int × Nat => p.1 + p.2 + 1
theorem rowsOf_len (r : List Int) : (rowsOf r).length = r.length := by simp [rowsOf]
theorem rowsOf_get {r : List Int} {i : Nat} (h : i < r.length) : (rowsOf r)[i]'(by rw [rowsOf_len]; exact h) = r[i] + i + 1 := by simp [rowsOf]
theorem rg_spec {r : List Int} (hd : r.Pairwise (· > ·)) (hb : ∀ x ∈ r, -(r.length : Int) ≤ x) : Part (rowsOfGaps r) ∧ ∀ x, IsG (rowsOfGaps r) x ↔ x ∈ r ∨ x < -(r.length : Int) := by
  have h0 : ∀ x ∈ rowsOf r, 0 ≤ x := fun x hx => by
    obtain ⟨i, hi, rfl⟩ := List.mem_iff_getElem.mp hx
    have hi2 : i < r.length := by rw [rowsOf_len] at hi; exact hi
    rw [rowsOf_get hi2]
    have := low_of_pw hd _ hb i hi2
    omega
  have hp : (rowsOf r).Pairwise (· ≥ ·) := by
    rw [List.pairwise_iff_getElem] at hd ⊢
    have step : ∀ (k i : Nat) (h : i + k < r.length), r[i + k] + k ≤ r[i]'(by omega) := by
      intro k
      induction k with
      | zero => intro i h; simp
      | succ k ih =>
        intro i h
        have h1 := ih i (by omega)
        have h2 := hd (i + k) (i + (k + 1)) (by omega) h (by omega)
        omega
    intro i j hi hj hij
    have hj2 : j < r.length := by rw [rowsOf_len] at hj; exact hj
    have hi2 : i < r.length := by omega
    rw [rowsOf_get hi2, rowsOf_get hj2]
    have e : j = i + (j - i) := by omega
    have := step (j - i) i (by omega)
    have e2 : r[i + (j - i)]'(by omega) = r[j] := by congr 1; omega
    rw [e2] at this
    omega
  obtain ⟨P1, P2⟩ := filter_pos hp h0
  refine ⟨P1, fun x => ?_⟩
  have gd : ∀ i, (rowsOfGaps r).getD i 0 = (rowsOf r).getD i 0 := P2
  unfold IsG gp
  constructor
  · rintro ⟨i, rfl⟩
    rw [gd]
    by_cases hi : i < r.length
    · left
      rw [List.getD_eq_getElem?_getD, List.getElem?_eq_getElem (by rw [rowsOf_len]; exact hi), Option.getD_some, rowsOf_get hi]
      have : r[i] + i + 1 - 1 - (i : Int) = r[i] := by omega
      rw [this]
      exact List.getElem_mem hi
    · right
      rw [gd_out (by rw [rowsOf_len]; omega)]
      omega
  · rintro (h | h)
    · obtain ⟨i, hi, rfl⟩ := List.mem_iff_getElem.mp h
      refine ⟨i, ?_⟩
      rw [gd, List.getD_eq_getElem?_getD, List.getElem?_eq_getElem (by rw [rowsOf_len]; exact hi), Option.getD_some, rowsOf_get hi]
      omega
    · refine ⟨(-1 - x).toNat, ?_⟩
      rw [gd, gd_out (by rw [rowsOf_len]; omega)]
      omega
theorem filter_ne_len : ∀ {l : List Int} {n : Int}, l.Pairwise (· > ·) → n ∈ l → (l.filter fun g => !decide (g = n)).length + 1 = l.length
  | x :: t, n, hd, hm => by
    have ht := List.pairwise_cons.mp hd
    by_cases e : x = n
    · subst e
      rw [List.filter_cons_of_neg (by simp)]
      have : t.filter (fun g => !decide (g = x)) = t := by
        rw [List.filter_eq_self]
        intro y hy
        have := ht.1 y hy
        simp
        omega
      rw [this]
      rfl
    · rw [List.filter_cons_of_pos (by simpa using e)]
      have hm2 : n ∈ t := by
        rcases List.mem_cons.mp hm with z | z
        · exact absurd z.symm e
        · exact z
      have := filter_ne_len ht.2 hm2
      simp only [List.length_cons]
      omega
theorem rowsOfGaps_len (r : List Int) : (rowsOfGaps r).length ≤ r.length := by
  unfold rowsOfGaps
  refine Nat.le_trans (List.length_filter_le _ _) ?_
  simp
theorem lawIsGap_iff {lam : List Int} (p : Part lam) (n : Int) : lawIsGap lam n = true ↔ IsG lam n := by
  unfold lawIsGap
  rw [Bool.or_eq_true, decide_eq_true_iff, decide_eq_true_iff, List.mem_map]
  constructor
  · rintro (h | ⟨i, h1, h2⟩)
    · exact isG_low h
    · have := mem_rgI.mp h1
      exact ⟨i.toNat, by rw [← h2]; unfold gp; omega⟩
  · rintro ⟨i, rfl⟩
    by_cases hi : i < lam.length
    · right
      exact ⟨i, mem_rgI.mpr ⟨by omega, by omega⟩, by unfold gp; simp⟩
    · left
      rw [gp_out (by omega)]
      omega
end K20
end
section
set_option Elab.async false
set_option linter.all false
set_option maxRecDepth 100000
namespace K20
open PySem PySem.Spec PyProof.Rows L2 U
theorem sorted_ext : ∀ {l m : List Int}, l.Pairwise (· < ·) → m.Pairwise (· < ·) → (∀ x, x ∈ l ↔ x ∈ m) → l = m
  | [], [], _, _, _ => rfl
  | [], y :: _, _, _, h => by have := (h y).mpr (List.mem_cons_self ..); cases this
  | x :: _, [], _, _, h => by have := (h x).mp (List.mem_cons_self ..); cases this
  | x :: t, y :: u, h1, h2, h => by
    have a := List.pairwise_cons.mp h1
    have b := List.pairwise_cons.mp h2
    have e : x = y := by
      rcases List.mem_cons.mp ((h x).mp (List.mem_cons_self ..)) with z | z
      · exact z
      · rcases List.mem_cons.mp ((h y).mpr (List.mem_cons_self ..)) with w | w
        · exact w.symm
        · have := a.1 y w
          have := b.1 x z
          omega
    subst e
    rw [sorted_ext a.2 b.2 fun z => ⟨fun hz => by
      rcases List.mem_cons.mp ((h z).mp (List.mem_cons_of_mem _ hz)) with w | w
      · have := a.1 z hz; omega
      · exact w, fun hz => by
      rcases List.mem_cons.mp ((h z).mpr (List.mem_cons_of_mem _ hz)) with w | w
      · have := b.1 z hz; omega
      · exact w⟩]
theorem rgI_pw (a b : Int) : (rgI a b).Pairwise (· < ·) := by
  unfold rgI
  rw [List.pairwise_map]
  exact List.pairwise_lt_range.imp fun h => by omega
theorem filter_rg {f : Int → Bool} {a b c d : Int} (h1 : c ≤ a) (h2 : b ≤ d) (ho : ∀ x, f x = true → a ≤ x ∧ x < b) : (rgI a b).filter f = (rgI c d).filter f :=
  sorted_ext ((rgI_pw a b).filter _) ((rgI_pw c d).filter _) fun x => by
    rw [List.mem_filter, List.mem_filter, mem_rgI, mem_rgI]
    constructor
    · rintro ⟨h, e⟩
      exact ⟨by omega, e⟩
    · rintro ⟨h, e⟩
      exact ⟨ho x e, e⟩
theorem siteFalls_eq {lam : List Int} (p : Part lam) (s : Int) : siteFalls lam s = !lawIsGap lam s := by
  have h := lawIsGap_iff p s
  unfold siteFalls
  split
  · rename_i e
    rw [h.mpr (isG_low e)]
    rfl
  · rename_i e
    rw [firstGaps_eq (Nat.le_refl _)]
    have m := mem_gapsTo p (Nat.le_refl _) (x := s)
    by_cases g : IsG lam s
    · rw [h.mpr g]
      simp only [m.mpr ⟨g, by omega⟩, decide_true]
    · have : lawIsGap lam s = false := by
        cases e2 : lawIsGap lam s
        · rfl
        · exact absurd (h.mp e2) g
      rw [this]
      have : s ∉ gapsTo lam lam.length := fun z => g (m.mp z).1
      simp only [this, decide_false]
theorem isG_top {lam : List Int} (p : Part lam) {x : Int} (h : IsG lam x) : x < (lam.take 1).sum := by
  obtain ⟨i, rfl⟩ := h
  have e : (lam.take 1).sum = lam.getD 0 0 := by cases lam <;> simp
  have := p.mono 0 i (by omega)
  rw [e]
  unfold gp
  omega
theorem notG_low {lam : List Int} {x : Int} (h : ¬ IsG lam x) : -(lam.length : Int) ≤ x := by
  by_cases z : x < -(lam.length : Int)
  · exact absurd (isG_low z) h
  · omega
theorem gap_f {lam : List Int} (p : Part lam) {s : Int} : lawIsGap lam s = false ↔ ¬ IsG lam s := by
  rw [← lawIsGap_iff p]
  cases lawIsGap lam s <;> simp
theorem part_small {lam : List Int} (p : Part lam) (z : lam.sum ≤ 30) : lam.length ≤ 30 ∧ (lam.take 1).sum ≤ 30 ∧ 0 ≤ (lam.take 1).sum := by
  have h1 := len_le_sum p.pos
  refine ⟨by omega, ?_⟩
  cases lam with
  | nil => exact ⟨by decide, by decide⟩
  | cons x r =>
    have h3 := p.pos x (List.mem_cons_self ..)
    have h5 := sum_nonneg (l := r) fun y hy => p.nn y (List.mem_cons_of_mem _ hy)
    have e : ((x :: r).take 1).sum = x := by simp
    rw [e]
    rw [List.sum_cons] at z
    omega
theorem colAt_iff : ∀ {lam : List Int}, lam.Pairwise (· ≥ ·) → ∀ {j : Int}, 0 ≤ j → ∀ k : Nat, ((k : Int) < colAt lam j ↔ j < lam.getD k 0)
  | [], _, j, hj, k => by
    unfold colAt
    simp
    omega
  | x :: t, hd, j, hj, k => by
    have ht := List.pairwise_cons.mp hd
    have IH := colAt_iff ht.2 hj
    unfold colAt at IH ⊢
    by_cases e : j < x
    · rw [List.filter_cons_of_pos (by simpa using e), List.length_cons]
      cases k with
      | zero =>
        simp only [List.getD_cons_zero]
        omega
      | succ k =>
        simp only [List.getD_cons_succ]
        rw [← IH k]
        omega
    · have nil : (x :: t).filter (fun r => decide (j < r)) = [] := by
        rw [List.filter_eq_nil_iff]
        intro y hy
        rcases List.mem_cons.mp hy with w | w
        · rw [w]; simpa using e
        · have := ht.1 y w
          simp
          omega
      rw [nil]
      constructor
      · intro h
        simp at h
        omega
      · intro h
        by_cases hk : k < (x :: t).length
        · rw [List.getD_eq_getElem?_getD, List.getElem?_eq_getElem hk, Option.getD_some] at h
          rcases List.mem_cons.mp (List.getElem_mem hk) with w | w
          · omega
          · have := ht.1 _ w
            omega
        · rw [gd_out (Nat.le_of_not_lt hk)] at h
          omega
theorem colAt_nn (lam : List Int) (j : Int) : 0 ≤ colAt lam j := by unfold colAt; omega
theorem falls_notG {lam : List Int} (p : Part lam) {j : Int} (hj : 0 ≤ j) : ¬ IsG lam (j - colAt lam j) := by
  rintro ⟨k, e⟩
  have h := colAt_iff p.desc hj k
  unfold gp at e
  by_cases z : (k : Int) < colAt lam j
  · have := h.mp z
    omega
  · have : ¬ j < lam.getD k 0 := fun w => z (h.mpr w)
    omega
theorem least {P : Nat → Prop} : ∀ n, P n → ∃ m, P m ∧ ∀ k, k < m → ¬ P k := fun n => by
  induction n using Nat.strongRecOn with
  | ind n ih =>
    intro h
    by_cases e : ∃ k, k < n ∧ P k
    · obtain ⟨k, h1, h2⟩ := e
      exact ih k h1 h2
    · exact ⟨n, h, fun k hk hp => e ⟨k, hk, hp⟩⟩
theorem falls_at {lam : List Int} (p : Part lam) {x : Int} {i : Nat} (hx : ¬ IsG lam x) (hi : x < gp lam i) : ∃ j, 0 ≤ j ∧ j < lam.getD i 0 ∧ j - colAt lam j = x := by
  obtain ⟨c, h1, h2⟩ := least (P := fun c => gp lam c < x) (lam.length + x.natAbs + 1) (by
    show gp lam _ < x
    rw [gp_out (by omega)]
    omega)
  have h3 : ∀ k, k < c → x < gp lam k := fun k hk => by
    have a := h2 k hk
    have b : x ≠ gp lam k := fun e => hx ⟨k, e⟩
    omega
  have hic : i < c := by
    rcases Nat.lt_or_ge i c with z | z
    · exact z
    · rcases Nat.eq_or_lt_of_le z with w | w
      · rw [← w] at hi; omega
      · have := gp_lt p w; omega
  have hc := p.mono c c (Nat.le_refl _)
  have g1 : lam.getD c 0 - 1 - c < x := h1
  have g2 : x < lam.getD (c - 1) 0 - 1 - ((c - 1 : Nat) : Int) := h3 (c - 1) (by omega)
  have hm := p.mono i (c - 1) (by omega)
  refine ⟨x + c, by omega, by omega, ?_⟩
  have a := (colAt_iff p.desc (j := x + c) (by omega) (c - 1)).mpr (by omega)
  have b : ¬ ((c : Nat) : Int) < colAt lam (x + c) := fun w => by
    have := (colAt_iff p.desc (j := x + c) (by omega) c).mp w
    omega
  omega
theorem colAt_anti {lam : List Int} (p : Part lam) {i j : Int} (hi : 0 ≤ i) (h : i ≤ j) : colAt lam j ≤ colAt lam i := by
  by_cases z : colAt lam j ≤ colAt lam i
  · exact z
  · have e := colAt_nn lam i
    have h1 := (colAt_iff p.desc (j := j) (by omega) (colAt lam i).toNat).mp (by omega)
    have h2 := (colAt_iff p.desc hi (colAt lam i).toNat).mpr (by omega)
    omega
end K20
end
section
set_option Elab.async false
set_option linter.all false
set_option maxRecDepth 100000
namespace K20
open PySem PySem.Spec PyProof.Rows L2 U
/-! ### the turned shape -/
abbrev cj (lam : List Int) : List Int := lawColumns lam
theorem headD_eq (lam : List Int) : lam.headD 0 = lam.getD 0 0 := by cases lam <;> rfl
theorem cj_get {lam : List Int} (p : Part lam) (j : Nat) : (cj lam).getD j 0 = colAt lam j := by
  unfold cj lawColumns
  rw [List.getD_eq_getElem?_getD, List.getElem?_map]
  by_cases h : (j : Int) < lam.headD 0
  · rw [rgI_get (by omega)]
    simp only [Option.map_some, Option.getD_some]
    congr 1
    omega
  · rw [List.getElem?_eq_none (by rw [rgI_len]; omega)]
    have e := colAt_iff p.desc (j := (j : Int)) (by omega) 0
    rw [headD_eq] at h
    have n := colAt_nn lam j
    have : ¬ ((0 : Nat) : Int) < colAt lam j := fun z => h (e.mp z)
    simp only [Option.map_none, Option.getD_none]
    omega
theorem cj_part {lam : List Int} (p : Part lam) : Part (cj lam) := by
  refine ⟨?_, fun x hx => ?_⟩
  · unfold cj lawColumns
    rw [List.pairwise_map]
    refine List.Pairwise.imp_of_mem ?_ (rgI_pw 0 (lam.headD 0))
    intro a b ha hb h
    exact colAt_anti p (mem_rgI.mp ha).1 (Int.le_of_lt h)
  · obtain ⟨j, hj, rfl⟩ := List.mem_map.mp hx
    obtain ⟨j0, j1⟩ := mem_rgI.mp hj
    rw [headD_eq] at j1
    have := (colAt_iff p.desc j0 0).mpr j1
    omega
theorem part_get {lam mu : List Int} (p : Part lam) (q : Part mu) (h : ∀ i : Nat, lam.getD i 0 = mu.getD i 0) : lam = mu :=
  part_ext p q fun x => by
    have e : ∀ i, gp lam i = gp mu i := fun i => by unfold gp; rw [h]
    unfold IsG
    simp only [e]
theorem colAt_cj {lam : List Int} (p : Part lam) (i : Nat) : colAt (cj lam) i = lam.getD i 0 := by
  have q := cj_part p
  have H : ∀ k : Nat, ((k : Int) < colAt (cj lam) i ↔ (k : Int) < lam.getD i 0) := fun k => by
    rw [colAt_iff q.desc (by omega) k, cj_get p, colAt_iff p.desc (by omega) i]
  have n1 := colAt_nn (cj lam) i
  have n2 := (p.mono i i (Nat.le_refl _)).2
  have h1 := H (colAt (cj lam) i).toNat
  have h2 := H (lam.getD i 0).toNat
  omega
theorem cj_cj {lam : List Int} (p : Part lam) : cj (cj lam) = lam :=
  part_get (cj_part (cj_part p)) p fun i => by rw [cj_get (cj_part p), colAt_cj p]
theorem cj_gap {lam : List Int} (p : Part lam) (n : Int) : IsG (cj lam) (-1 - n) ↔ ¬ IsG lam n := by
  constructor
  · rintro ⟨j, e⟩ h
    have : n = (j : Int) - colAt lam j := by unfold gp at e; rw [cj_get p] at e; omega
    rw [this] at h
    exact falls_notG p (by omega) h
  · intro h
    -- a row far out whose gap is below: take the first row of all
    by_cases z : n < gp lam 0
    · obtain ⟨j, j0, j1, e⟩ := falls_at p h z
      refine ⟨j.toNat, ?_⟩
      unfold gp
      rw [cj_get p]
      have : ((j.toNat : Nat) : Int) = j := by omega
      rw [this]
      omega
    · have hm : lam.getD 0 0 ≤ n := by
        have : n ≠ gp lam 0 := fun e => h ⟨0, e⟩
        unfold gp at this z
        omega
      have h0 := (p.mono 0 0 (Nat.le_refl _)).2
      refine ⟨n.toNat, ?_⟩
      unfold gp
      rw [cj_get p]
      have e := colAt_iff p.desc (j := ((n.toNat : Nat) : Int)) (by omega) 0
      have nn := colAt_nn lam (n.toNat : Nat)
      have : ¬ ((0 : Nat) : Int) < colAt lam (n.toNat : Nat) := fun w => by
        have := e.mp w
        omega
      omega
/-! ### cells -/
theorem mem_cellsTo {lam : List Int} {q : Int × Int} : ∀ {m : Nat}, q ∈ cellsTo lam m ↔ 0 ≤ q.1 ∧ q.1 < m ∧ 0 ≤ q.2 ∧ q.2 < lam.getD q.1.toNat 0
  | 0 => by
    unfold cellsTo
    simp
    omega
  | m + 1 => by
    rw [cellsTo_succ, List.mem_append, mem_cellsTo (m := m), List.mem_map]
    constructor
    · rintro (h | ⟨j, hj, rfl⟩)
      · exact ⟨h.1, by omega, h.2.2⟩
      · obtain ⟨j0, j1⟩ := mem_rgI.mp hj
        simp only [Int.toNat_natCast]
        exact ⟨by omega, by omega, j0, j1⟩
    · rintro ⟨h1, h2, h3, h4⟩
      by_cases e : q.1 = m
      · right
        refine ⟨q.2, mem_rgI.mpr ⟨h3, ?_⟩, ?_⟩
        · have : q.1.toNat = m := by omega
          rw [this] at h4
          exact h4
        · rw [← e]
      · left
        exact ⟨h1, by omega, h3, h4⟩
theorem nodup_cellsTo (lam : List Int) : ∀ m, (cellsTo lam m).Nodup
  | 0 => by unfold cellsTo; simp
  | m + 1 => by
    rw [cellsTo_succ]
    refine List.nodup_append.mpr ⟨nodup_cellsTo lam m, ?_, fun a ha b hb e => ?_⟩
    · unfold List.Nodup
      rw [List.pairwise_map]
      exact (rgI_pw _ _).imp fun h e => by
        have := (Prod.mk.inj e).2
        omega
    · obtain ⟨j, _, rfl⟩ := List.mem_map.mp hb
      have := (mem_cellsTo.mp ha).2.1
      rw [e] at this
      simp at this
theorem perm_nodup {α : Type} [DecidableEq α] : ∀ {l m : List α}, l.Nodup → m.Nodup → (∀ x, x ∈ l ↔ x ∈ m) → l.Perm m
  | [], [], _, _, _ => List.Perm.refl _
  | [], y :: _, _, _, h => by have := (h y).mpr (List.mem_cons_self ..); cases this
  | x :: t, m, h1, h2, h => by
    have hx : x ∈ m := (h x).mp (List.mem_cons_self ..)
    have ht := List.nodup_cons.mp h1
    have IH := perm_nodup ht.2 (h2.erase x) fun y => by
      rw [h2.mem_erase_iff]
      constructor
      · intro hy
        exact ⟨fun e => ht.1 (e ▸ hy), (h y).mp (List.mem_cons_of_mem _ hy)⟩
      · rintro ⟨e, hy⟩
        rcases List.mem_cons.mp ((h y).mpr hy) with w | w
        · exact absurd w e
        · exact w
    exact (List.Perm.cons x IH).trans (List.perm_cons_erase hx).symm
theorem cells_swap {lam : List Int} (p : Part lam) : ((cellsTo (cj lam) (cj lam).length).map fun q => (q.2, q.1)).Perm (cellsTo lam lam.length) := by
  refine perm_nodup ?_ (nodup_cellsTo _ _) fun q => ?_
  · unfold List.Nodup
    rw [List.pairwise_map]
    exact (nodup_cellsTo _ _).imp fun h e => h (by
      have e1 := (Prod.mk.inj e).1
      have e2 := (Prod.mk.inj e).2
      exact Prod.ext e2 e1)
  · have key : ∀ {mu : List Int}, Part mu → ∀ {q : Int × Int}, q ∈ cellsTo mu mu.length ↔ 0 ≤ q.1 ∧ 0 ≤ q.2 ∧ q.2 < mu.getD q.1.toNat 0 := fun {mu} r {q} => by
      rw [mem_cellsTo]
      constructor
      · rintro ⟨a, b, c, d⟩
        exact ⟨a, c, d⟩
      · rintro ⟨a, c, d⟩
        refine ⟨a, ?_, c, d⟩
        by_cases z : q.1 < mu.length
        · exact z
        · rw [gd_out (by omega)] at d
          omega
    rw [key p, List.mem_map]
    constructor
    · rintro ⟨s, hs, rfl⟩
      obtain ⟨a, b, c⟩ := (key (cj_part p)).mp hs
      rw [cj_get p] at c
      refine ⟨b, a, ?_⟩
      have e : ((s.1.toNat : Nat) : Int) = s.1 := by omega
      rw [e] at c
      have := (colAt_iff p.desc a s.2.toNat).mp (by omega)
      exact this
    · rintro ⟨a, b, c⟩
      refine ⟨(q.2, q.1), (key (cj_part p)).mpr ⟨b, a, ?_⟩, rfl⟩
      show q.1 < (cj lam).getD q.2.toNat 0
      rw [cj_get p]
      have e : ((q.2.toNat : Nat) : Int) = q.2 := by omega
      rw [e]
      have := (colAt_iff p.desc b q.1.toNat).mpr c
      omega
theorem cells_len {lam : List Int} (p : Part lam) : ((cellsTo lam lam.length).length : Int) = lam.sum := by
  have key : ∀ i, ((cellsTo lam i).length : Int) = ((List.range i).map fun k => lam.getD k 0).sum := by
    intro i
    induction i with
    | zero => rfl
    | succ i ih =>
      rw [cellsTo_succ, List.length_append, List.length_map, rgI_len, List.range_succ, List.map_append, List.sum_append]
      have := (p.mono i i (Nat.le_refl _)).2
      rw [List.map_cons, List.map_nil, List.sum_cons, List.sum_nil]
      omega
  rw [key]
  congr 1
  refine List.ext_getElem (by simp) fun i h1 h2 => ?_
  simp [List.getD_eq_getElem?_getD, List.getElem?_eq_getElem h2]
theorem cj_sum {lam : List Int} (p : Part lam) : (cj lam).sum = lam.sum := by
  rw [← cells_len p, ← cells_len (cj_part p), ← (cells_swap p).length_eq, List.length_map]
/-! ### hooks -/
theorem hk_swap {lam : List Int} (p : Part lam) (q : Int × Int) : hkk (cj lam) q = hkk lam (q.2, q.1) := by
  have e : lawColumns (lawColumns lam) = lam := cj_cj p
  unfold hkk cj
  rw [e]
  simp only
  omega
theorem found_cj {lam : List Int} (p : Part lam) : (foundHooks (cj lam)).Perm (foundHooks lam) := by
  have h := (cells_swap p).map (hkk lam)
  rw [List.map_map] at h
  have e : (hkk lam ∘ fun q : Int × Int => (q.2, q.1)) = hkk (cj lam) := by
    funext q
    rw [hk_swap p]
    rfl
  rw [e] at h
  exact h
theorem cnt_ge (L j : Int) (h0 : 0 ≤ j) (h1 : j ≤ L) : (((rgI 0 L).filter fun y => decide (j ≤ y)).length : Int) = L - j := by
  have e : (rgI 0 L).filter (fun y => decide (j ≤ y)) = rgI j L := by
    refine sorted_ext ((rgI_pw _ _).filter _) (rgI_pw _ _) fun x => ?_
    rw [List.mem_filter, mem_rgI, mem_rgI, decide_eq_true_iff]
    omega
  rw [e, rgI_len]
  omega
theorem cnt_eq (L j : Int) (h0 : 0 ≤ j) : (((rgI 0 L).filter fun y => decide (y = j)).length : Int) = if j < L then 1 else 0 := by
  split
  · have e : (rgI 0 L).filter (fun y => decide (y = j)) = [j] := by
      refine sorted_ext ((rgI_pw _ _).filter _) (List.pairwise_singleton ..) fun x => ?_
      rw [List.mem_filter, mem_rgI, decide_eq_true_iff, List.mem_singleton]
      omega
    rw [e]; rfl
  · have e : (rgI 0 L).filter (fun y => decide (y = j)) = [] := by
      rw [List.filter_eq_nil_iff]
      intro x hx
      have := mem_rgI.mp hx
      simp
      omega
    rw [e]; rfl
theorem colAt_le (lam : List Int) (j : Int) : colAt lam j ≤ lam.length := by
  unfold colAt
  have := List.length_filter_le (fun r => decide (j < r)) lam
  omega
theorem walk_hk {lam : List Int} (p : Part lam) {i : Nat} {j : Int} (hi : i < lam.length) (j0 : 0 ≤ j) (j1 : j < lam.getD i 0) : walkHook lam i j = hkk lam (i, j) := by
  have hc := (colAt_iff p.desc j0 i).mpr j1
  have hl := colAt_le lam j
  have key : ∀ m : Nat, (((cellsTo lam m).filter fun q => (decide (q.1 = (i : Int)) && decide (j ≤ q.2)) || (decide (q.2 = j) && decide ((i : Int) < q.1))).length : Int) =
      if m ≤ i then 0 else lam.getD i 0 - j + (min (m : Int) (colAt lam j) - (i + 1)) := by
    intro m
    induction m with
    | zero => rfl
    | succ m ih =>
      rw [cellsTo_succ, List.filter_append, List.length_append, List.filter_map, List.length_map]
      rcases Nat.lt_trichotomy m i with h | h | h
      · have e : (rgI 0 (lam.getD m 0)).filter ((fun q : Int × Int => (decide (q.1 = (i : Int)) && decide (j ≤ q.2)) || (decide (q.2 = j) && decide ((i : Int) < q.1))) ∘ fun y => ((m : Int), y)) = [] := by
          rw [List.filter_eq_nil_iff]
          intro x _
          simp
          omega
        rw [e, if_pos (by omega)]
        rw [if_pos (by omega)] at ih
        rw [List.length_nil]
        omega
      · subst h
        have e : (rgI 0 (lam.getD m 0)).filter ((fun q : Int × Int => (decide (q.1 = (m : Int)) && decide (j ≤ q.2)) || (decide (q.2 = j) && decide ((m : Int) < q.1))) ∘ fun y => ((m : Int), y)) = (rgI 0 (lam.getD m 0)).filter fun y => decide (j ≤ y) := by
          refine List.filter_congr fun x _ => ?_
          simp
        have c := cnt_ge (lam.getD m 0) j j0 (Int.le_of_lt j1)
        rw [e, if_neg (by omega)]
        rw [if_pos (Nat.le_refl _)] at ih
        have : min ((m + 1 : Nat) : Int) (colAt lam j) = m + 1 := by omega
        rw [this]
        omega
      · have e : (rgI 0 (lam.getD m 0)).filter ((fun q : Int × Int => (decide (q.1 = (i : Int)) && decide (j ≤ q.2)) || (decide (q.2 = j) && decide ((i : Int) < q.1))) ∘ fun y => ((m : Int), y)) = (rgI 0 (lam.getD m 0)).filter fun y => decide (y = j) := by
          refine List.filter_congr fun x _ => ?_
          have h1 : decide ((m : Int) = (i : Int)) = false := decide_eq_false (by omega)
          have h2 : decide ((i : Int) < (m : Int)) = true := decide_eq_true (by omega)
          simp only [Function.comp, h1, h2, Bool.false_and, Bool.false_or, Bool.and_true]
        have c := cnt_eq (lam.getD m 0) j j0
        have hm := colAt_iff p.desc j0 m
        rw [e, if_neg (by omega)]
        rw [if_neg (by omega)] at ih
        by_cases z : j < lam.getD m 0
        · rw [if_pos z] at c
          have := hm.mpr z
          omega
        · rw [if_neg z] at c
          have : ¬ (m : Int) < colAt lam j := fun w => z (hm.mp w)
          omega
  unfold walkHook
  rw [key, if_neg (by omega)]
  unfold hkk
  have e : ((j.toNat : Nat) : Int) = j := by omega
  have c := cj_get p j.toNat
  unfold cj at c
  rw [c, e]
  simp only [Int.toNat_natCast]
  omega
end K20
end
section
set_option Elab.async false
set_option linter.all false
set_option maxRecDepth 100000
namespace K20
open PySem PySem.Spec PyProof.Rows L2 U
/-! ### cores -/
theorem sum_filter_pos : ∀ {f : List Int}, (∀ x ∈ f, 0 ≤ x) → (f.filter fun r => decide (0 < r)).sum = f.sum
  | [], _ => rfl
  | x :: t, h => by
    have ih := sum_filter_pos (f := t) fun y hy => h y (List.mem_cons_of_mem _ hy)
    have hx := h x (List.mem_cons_self ..)
    by_cases e : 0 < x
    · rw [List.filter_cons_of_pos (by simpa using e), List.sum_cons, List.sum_cons, ih]
    · rw [List.filter_cons_of_neg (by simpa using e), List.sum_cons, ih]
      omega
theorem pw_of_get {f : List Int} (h : ∀ i j : Nat, i < j → j < f.length → f.getD j 0 ≤ f.getD i 0) : f.Pairwise (· ≥ ·) := by
  rw [List.pairwise_iff_getElem]
  intro i j hi hj hij
  have := h i j hij hj
  rw [List.getD_eq_getElem?_getD, List.getD_eq_getElem?_getD, List.getElem?_eq_getElem hi, List.getElem?_eq_getElem hj] at this
  exact this
theorem nn_of_get {f : List Int} (h : ∀ i : Nat, i < f.length → 0 ≤ f.getD i 0) : ∀ x ∈ f, 0 ≤ x := fun x hx => by
  obtain ⟨i, hi, rfl⟩ := List.mem_iff_getElem.mp hx
  have := h i hi
  rw [List.getD_eq_getElem?_getD, List.getElem?_eq_getElem hi] at this
  exact this
theorem getX (lam : List Int) (k : Nat) : (rowsX lam).getD k 0 = lam.getD k 0 := by
  rw [List.getD_eq_getElem?_getD, List.getD_eq_getElem?_getD]
  by_cases h : k < lam.length
  · rw [List.getElem?_append_left h]
  · rw [List.getElem?_append_right (by omega), List.getElem?_eq_none (l := lam) (by omega)]
    match k - lam.length with
    | 0 => rfl
    | 1 => rfl
    | n + 2 => rfl
theorem getH {X : List Int} {i : Nat} (hi : i < X.length) (c : Int) (k : Nat) : (X.take i ++ [c] ++ X.drop (i + 1)).getD k 0 = if k = i then c else X.getD k 0 := by
  rw [List.getD_eq_getElem?_getD, List.append_assoc]
  have hl : (X.take i).length = i := by rw [List.length_take]; omega
  rcases Nat.lt_trichotomy k i with h | h | h
  · rw [List.getElem?_append_left (by omega), List.getElem?_take_of_lt h, if_neg (by omega), List.getD_eq_getElem?_getD]
  · subst h
    rw [List.getElem?_append_right (by omega), hl, Nat.sub_self, if_pos rfl]
    rfl
  · rw [List.getElem?_append_right (by omega), hl, if_neg (by omega)]
    obtain ⟨m, rfl⟩ : ∃ m, k = i + 1 + m := ⟨k - i - 1, by omega⟩
    rw [show i + 1 + m - i = m + 1 by omega, List.singleton_append, List.getElem?_cons_succ, List.getElem?_drop, List.getD_eq_getElem?_getD]
theorem getV {X : List Int} {i : Nat} (hi : i < X.length) (c : Int) (k : Nat) : (X.take i ++ [c, c] ++ X.drop (i + 2)).getD k 0 = if k = i ∨ k = i + 1 then c else X.getD k 0 := by
  rw [List.getD_eq_getElem?_getD, List.append_assoc]
  have hl : (X.take i).length = i := by rw [List.length_take]; omega
  rcases Nat.lt_trichotomy k i with h | h | h
  · rw [List.getElem?_append_left (by omega), List.getElem?_take_of_lt h, if_neg (by omega), List.getD_eq_getElem?_getD]
  · subst h
    rw [List.getElem?_append_right (by omega), hl, Nat.sub_self, if_pos (.inl rfl)]
    rfl
  · rw [List.getElem?_append_right (by omega), hl]
    by_cases e : k = i + 1
    · subst e
      rw [if_pos (.inr rfl), show i + 1 - i = 1 by omega]
      rfl
    · rw [if_neg (by omega)]
      obtain ⟨m, rfl⟩ : ∃ m, k = i + 2 + m := ⟨k - i - 2, by omega⟩
      rw [show i + 2 + m - i = m + 2 by omega, List.cons_append, List.cons_append, List.nil_append, List.getElem?_cons_succ, List.getElem?_cons_succ, List.getElem?_drop, List.getD_eq_getElem?_getD]
theorem sum_split {X : List Int} {i : Nat} (hi : i < X.length) : X.sum = (X.take i).sum + X.getD i 0 + (X.drop (i + 1)).sum := by
  have e : X = X.take i ++ X[i] :: X.drop (i + 1) := by
    rw [← List.drop_eq_getElem_cons hi, List.take_append_drop]
  have g : X.getD i 0 = X[i] := by rw [List.getD_eq_getElem?_getD, List.getElem?_eq_getElem hi]; rfl
  have := congrArg List.sum e
  rw [List.sum_append, List.sum_cons] at this
  rw [g]
  omega
/-- what one domino does to the gaps -/
structure OneOff (lam mu : List Int) : Prop where
  part : Part mu
  sum : mu.sum = lam.sum - 2
  gap : ∃ g, IsG lam g ∧ ¬ IsG lam (g - 2) ∧ ∀ x, IsG mu x ↔ (IsG lam x ∧ x ≠ g) ∨ x = g - 2
theorem between {lam : List Int} (p : Part lam) {i : Nat} {x : Int} (h1 : gp lam (i + 1) < x) (h2 : x < gp lam i) : ¬ IsG lam x := by
  rintro ⟨k, rfl⟩
  rcases Nat.lt_or_ge k (i + 1) with h | h
  · rcases Nat.lt_or_eq_of_le (Nat.le_of_lt_succ h) with w | w
    · have := gp_lt p w; omega
    · subst w; omega
  · rcases Nat.lt_or_eq_of_le h with w | w
    · have := gp_lt p w; omega
    · rw [w] at h1; omega
theorem sumX (lam : List Int) : (rowsX lam).sum = lam.sum := by
  unfold rowsX
  rw [List.sum_append]
  simp
theorem one_H {lam : List Int} (p : Part lam) {i : Nat} (hi : i < lam.length) (h : rx lam (i + 1) ≤ rx lam i - 2) : OneOff lam (lawCleaned ((rowsX lam).take i ++ [rx lam i - 2] ++ (rowsX lam).drop (i + 1))) := by
  have hX : (rowsX lam).length = lam.length + 2 := by simp
  have e1 : rx lam (i + 1) = lam.getD (i + 1) 0 := getX ..
  have e0 : rx lam i = lam.getD i 0 := getX ..
  have G : ∀ k, ((rowsX lam).take i ++ [rx lam i - 2] ++ (rowsX lam).drop (i + 1)).getD k 0 = if k = i then lam.getD i 0 - 2 else lam.getD k 0 := fun k => by rw [getH (by omega), getX, e0]
  rw [e0, e1] at h
  have m1 := p.mono (i + 1) (i + 1) (Nat.le_refl _)
  have nn : ∀ x ∈ ((rowsX lam).take i ++ [rx lam i - 2] ++ (rowsX lam).drop (i + 1)), 0 ≤ x := nn_of_get fun k _ => by
    rw [G]
    split
    · omega
    · exact (p.mono k k (Nat.le_refl _)).2
  have F := filter_pos (pw_of_get (f := (rowsX lam).take i ++ [rx lam i - 2] ++ (rowsX lam).drop (i + 1)) fun a b hab hb => by
    rw [G, G]
    by_cases hbi : b = i
    · rw [if_pos hbi, if_neg (by omega)]
      subst hbi
      have := p.mono a b (by omega)
      omega
    · rw [if_neg hbi]
      by_cases hai : a = i
      · rw [if_pos hai]
        subst hai
        have := p.mono (a + 1) b (by omega)
        omega
      · rw [if_neg hai]
        exact (p.mono a b (by omega)).1) nn
  refine ⟨F.1, ?_, gp lam i, ⟨i, rfl⟩, between p (i := i) (by unfold gp; omega) (by omega), fun x => ?_⟩
  · have s := sum_split (X := rowsX lam) (i := i) (by omega)
    have g0 := getX lam i
    unfold lawCleaned
    rw [sum_filter_pos nn, List.sum_append, List.sum_append, ← sumX lam, s]
    simp
    omega
  · have gm : ∀ k, gp (lawCleaned ((rowsX lam).take i ++ [rx lam i - 2] ++ (rowsX lam).drop (i + 1))) k = if k = i then gp lam i - 2 else gp lam k := fun k => by
      have := F.2 k
      unfold gp lawCleaned
      rw [this, G]
      split
      · rename_i e
        rw [e]
        omega
      · rfl
    constructor
    · rintro ⟨k, rfl⟩
      rw [gm]
      split
      · exact .inr rfl
      · rename_i e
        exact .inl ⟨⟨k, rfl⟩, fun z => e (gp_inj p z)⟩
    · rintro (⟨⟨k, rfl⟩, h2⟩ | h2)
      · refine ⟨k, ?_⟩
        rw [gm, if_neg fun z => h2 (by rw [z])]
      · refine ⟨i, ?_⟩
        rw [gm, if_pos rfl]
        exact h2
theorem one_V {lam : List Int} (p : Part lam) {i : Nat} (hi : i < lam.length) (ha : rx lam i = rx lam (i + 1)) (h : rx lam (i + 2) ≤ rx lam i - 1) : OneOff lam (lawCleaned ((rowsX lam).take i ++ [rx lam i - 1, rx lam i - 1] ++ (rowsX lam).drop (i + 2))) := by
  have hX : (rowsX lam).length = lam.length + 2 := by simp
  have e2 : rx lam (i + 2) = lam.getD (i + 2) 0 := getX ..
  have e1 : rx lam (i + 1) = lam.getD (i + 1) 0 := getX ..
  have e0 : rx lam i = lam.getD i 0 := getX ..
  have G : ∀ k, ((rowsX lam).take i ++ [rx lam i - 1, rx lam i - 1] ++ (rowsX lam).drop (i + 2)).getD k 0 = if k = i ∨ k = i + 1 then lam.getD i 0 - 1 else lam.getD k 0 := fun k => by rw [getV (by omega), getX, e0]
  rw [e0, e1] at ha
  rw [e0, e2] at h
  have m2 := p.mono (i + 2) (i + 2) (Nat.le_refl _)
  have nn : ∀ x ∈ ((rowsX lam).take i ++ [rx lam i - 1, rx lam i - 1] ++ (rowsX lam).drop (i + 2)), 0 ≤ x := nn_of_get fun k _ => by
    rw [G]
    split
    · omega
    · exact (p.mono k k (Nat.le_refl _)).2
  have F := filter_pos (pw_of_get (f := (rowsX lam).take i ++ [rx lam i - 1, rx lam i - 1] ++ (rowsX lam).drop (i + 2)) fun a b hab hb => by
    rw [G, G]
    by_cases hbi : b = i ∨ b = i + 1
    · rw [if_pos hbi]
      by_cases hai : a = i ∨ a = i + 1
      · rw [if_pos hai]
        exact Int.le_refl _
      · rw [if_neg hai]
        have := p.mono a i (by omega)
        omega
    · rw [if_neg hbi]
      by_cases hai : a = i ∨ a = i + 1
      · rw [if_pos hai]
        have := p.mono (i + 2) b (by omega)
        omega
      · rw [if_neg hai]
        exact (p.mono a b (by omega)).1) nn
  have q1 : gp lam (i + 1) = gp lam i - 1 := by unfold gp; omega
  have m3 : lam.getD (i + 1 + 1) 0 = lam.getD (i + 2) 0 := rfl
  refine ⟨F.1, ?_, gp lam i, ⟨i, rfl⟩, between p (i := i + 1) (by unfold gp; omega) (by omega), fun x => ?_⟩
  · have s := sum_split (X := rowsX lam) (i := i) (by omega)
    have s2 := sum_split (X := (rowsX lam).drop (i + 1)) (i := 0) (by rw [List.length_drop]; omega)
    have g0 := getX lam i
    have g1 := getX lam (i + 1)
    have g2 : ((rowsX lam).drop (i + 1)).getD 0 0 = (rowsX lam).getD (i + 1) 0 := by
      rw [List.getD_eq_getElem?_getD, List.getElem?_drop, List.getD_eq_getElem?_getD]
    rw [List.drop_drop, g2, List.take_zero] at s2
    rw [show i + 1 + (0 + 1) = i + 2 by omega] at s2
    unfold lawCleaned
    have s3 : ([rx lam i - 1, rx lam i - 1] : List Int).sum = rx lam i - 1 + (rx lam i - 1) := by
      rw [List.sum_cons, List.sum_cons, List.sum_nil]
      omega
    have s4 : ([] : List Int).sum = 0 := rfl
    rw [sum_filter_pos nn, List.sum_append, List.sum_append, ← sumX lam, s3]
    rw [s4] at s2
    have e5 : rx lam i = (rowsX lam).getD i 0 := rfl
    omega
  · have gm : ∀ k, gp (lawCleaned ((rowsX lam).take i ++ [rx lam i - 1, rx lam i - 1] ++ (rowsX lam).drop (i + 2))) k = if k = i then gp lam i - 1 else if k = i + 1 then gp lam i - 2 else gp lam k := fun k => by
      have := F.2 k
      unfold gp lawCleaned
      rw [this, G]
      by_cases k1 : k = i
      · rw [if_pos (.inl k1), if_pos k1, k1]
        omega
      · rw [if_neg k1]
        by_cases k2 : k = i + 1
        · rw [if_pos (.inr k2), if_pos k2, k2]
          omega
        · rw [if_neg k2, if_neg (by omega)]
    constructor
    · rintro ⟨k, rfl⟩
      rw [gm]
      by_cases k1 : k = i
      · rw [if_pos k1, ← q1]
        exact .inl ⟨⟨_, rfl⟩, by omega⟩
      · rw [if_neg k1]
        by_cases k2 : k = i + 1
        · rw [if_pos k2]
          exact .inr rfl
        · rw [if_neg k2]
          exact .inl ⟨⟨k, rfl⟩, fun z => k1 (gp_inj p z)⟩
    · rintro (⟨⟨k, rfl⟩, h2⟩ | h2)
      · have ki : k ≠ i := fun z => h2 (by rw [z])
        by_cases k2 : k = i + 1
        · refine ⟨i, ?_⟩
          rw [gm, if_pos rfl, k2, q1]
        · refine ⟨k, ?_⟩
          rw [gm, if_neg ki, if_neg k2]
      · refine ⟨i + 1, ?_⟩
        rw [gm, if_neg (by omega), if_pos rfl]
        exact h2
theorem strips_one {lam : List Int} (p : Part lam) {q : List Int × Int} (h : q ∈ lawStrips lam) : OneOff lam q.1 := by
  obtain ⟨i, hi, hq⟩ := List.mem_flatMap.mp h
  have hi := List.mem_range.mp hi
  rcases List.mem_append.mp hq with z | z
  · unfold stripH at z
    split at z
    · rename_i c
      rw [List.mem_singleton.mp z]
      exact one_H p hi c
    · cases z
  · unfold stripV at z
    split at z
    · rename_i c
      rw [List.mem_singleton.mp z]
      exact one_V p hi c.1 c.2
    · cases z
end K20
end
section
set_option Elab.async false
set_option linter.all false
set_option maxRecDepth 100000
namespace K20
open PySem PySem.Spec PyProof.Rows L2 U
/-! ### the gaps of one parity -/
def par (lam : List Int) (m : Nat) (c : Int) : List Int := (gapsTo lam m).filter fun g => decide (g % 2 = c)
theorem par_pw {lam : List Int} (p : Part lam) (m : Nat) (c : Int) : (par lam m c).Pairwise (· > ·) := (gapsTo_pw p m).filter _
theorem mem_par {lam : List Int} (p : Part lam) {m : Nat} (hm : lam.length ≤ m) {c x : Int} : x ∈ par lam m c ↔ IsG lam x ∧ -(m : Int) ≤ x ∧ x % 2 = c := by
  unfold par
  rw [List.mem_filter, mem_gapsTo p hm, decide_eq_true_iff]
  constructor
  · rintro ⟨⟨a, b⟩, c⟩; exact ⟨a, b, c⟩
  · rintro ⟨a, b, c⟩; exact ⟨⟨a, b⟩, c⟩
theorem par_sum (l : List Int) : (l.filter fun g => decide (g % 2 = 0)).length + (l.filter fun g => decide (g % 2 = 1)).length = l.length := by
  induction l with
  | nil => rfl
  | cons x t ih =>
    simp only [List.filter_cons, List.length_cons]
    by_cases h : x % 2 = 0
    · have h1 : ¬ x % 2 = 1 := by omega
      simp only [h, decide_true, if_true, List.length_cons]
      simp
      omega
    · have h1 : x % 2 = 1 := by omega
      simp only [h1, decide_true, if_true, List.length_cons]
      simp
      omega
theorem par_all (lam : List Int) (m : Nat) : (par lam m 0).length + (par lam m 1).length = m := by
  have := par_sum (gapsTo lam m)
  rw [gapsTo_len] at this
  exact this
theorem nodup_of_gt {l : List Int} (h : l.Pairwise (· > ·)) : l.Nodup := h.imp fun h => by omega
theorem sub_len : ∀ {l m : List Int}, l.Nodup → (∀ x ∈ l, x ∈ m) → l.length ≤ m.length
  | [], m, _, _ => Nat.zero_le _
  | x :: t, m, h1, h2 => by
    have ht := List.nodup_cons.mp h1
    have hx := h2 x (List.mem_cons_self ..)
    have ih := sub_len (l := t) (m := m.erase x) ht.2 fun y hy => by
      have hne : y ≠ x := fun e => ht.1 (e ▸ hy)
      exact (List.mem_erase_of_ne hne).mpr (h2 y (List.mem_cons_of_mem _ hy))
    have := List.length_erase_of_mem hx
    have hp : 0 < m.length := List.length_pos_of_mem hx
    rw [List.length_cons]
    omega
theorem gt_ext {l m : List Int} (h1 : l.Pairwise (· > ·)) (h2 : m.Pairwise (· > ·)) (h : ∀ x, x ∈ l ↔ x ∈ m) : l = m := by
  have e := sorted_ext (l := l.reverse) (m := m.reverse) (List.pairwise_reverse.mpr h1) (List.pairwise_reverse.mpr h2) fun x => by rw [List.mem_reverse, List.mem_reverse]; exact h x
  have := congrArg List.reverse e
  rw [List.reverse_reverse, List.reverse_reverse] at this
  exact this
theorem gapsTo_succ (lam : List Int) (m : Nat) : gapsTo lam (m + 1) = gapsTo lam m ++ [gp lam m] := by
  unfold gapsTo
  rw [List.range_succ, List.map_append]
  rfl
theorem par_two {lam : List Int} {m : Nat} (hm : lam.length ≤ m) (he : m % 2 = 0) : (par lam (m + 2) 0).length = (par lam m 0).length + 1 := by
  unfold par
  rw [show m + 2 = (m + 1) + 1 from rfl, gapsTo_succ, gapsTo_succ, List.filter_append, List.filter_append, List.length_append, List.length_append]
  have e1 : gp lam m = -1 - (m : Int) := gp_out hm
  have e2 : gp lam (m + 1) = -1 - ((m + 1 : Nat) : Int) := gp_out (by omega)
  have f1 : ([gp lam m].filter fun g => decide (g % 2 = 0)) = [] := by
    rw [List.filter_cons_of_neg (by simp; omega)]; rfl
  have f2 : ([gp lam (m + 1)].filter fun g => decide (g % 2 = 0)) = [gp lam (m + 1)] := by
    rw [List.filter_cons_of_pos (by simp; omega)]; rfl
  rw [f1, f2]
  rfl
theorem par_more {lam : List Int} {m : Nat} (hm : lam.length ≤ m) (he : m % 2 = 0) : ∀ k, (par lam (m + 2 * k) 0).length = (par lam m 0).length + k
  | 0 => rfl
  | k + 1 => by
    rw [show m + 2 * (k + 1) = (m + 2 * k) + 2 by omega, par_two (by omega) (by omega), par_more hm he k]
    omega
def manyN (lam : List Int) : Nat := lam.length + lam.length % 2
theorem manyN_ok (lam : List Int) : lam.length ≤ manyN lam ∧ manyN lam % 2 = 0 ∧ manyOf lam = (manyN lam : Int) := by
  unfold manyN manyOf
  omega
def chg (lam : List Int) : Int := 2 * ((par lam (manyN lam) 0).length : Int) - manyN lam
theorem chg_eq {lam : List Int} {m : Nat} (hm : lam.length ≤ m) (he : m % 2 = 0) : 2 * ((par lam m 0).length : Int) - m = chg lam := by
  obtain ⟨h1, h2, _⟩ := manyN_ok lam
  unfold chg
  rcases Nat.le_total m (manyN lam) with h | h
  · obtain ⟨k, hk⟩ : ∃ k, manyN lam = m + 2 * k := ⟨(manyN lam - m) / 2, by omega⟩
    have := par_more hm he k
    rw [hk, this]
    omega
  · obtain ⟨k, hk⟩ : ∃ k, m = manyN lam + 2 * k := ⟨(m - manyN lam) / 2, by omega⟩
    have := par_more h1 h2 k
    rw [hk, this]
    omega
/-- the gaps of a core -/
def CoreG (c x : Int) : Prop := (x % 2 = 0 ∧ x < c) ∨ (x % 2 = 1 ∧ x < 1 - c)
theorem core_spec {lam : List Int} (p : Part lam) : Part (coreRows lam) ∧ ∀ x, IsG (coreRows lam) x ↔ CoreG (chg lam) x := by
  obtain ⟨h1, h2, h3⟩ := manyN_ok lam
  have hE : evenN lam (manyOf lam) = ((par lam (manyN lam) 0).length : Int) := by
    unfold evenN par
    rw [h3, firstGaps_eq h1]
  have all := par_all lam (manyN lam)
  unfold coreRows
  have mem : ∀ x, x ∈ sortDown (coreRow lam (manyOf lam)) ↔ (x % 2 = 0 ∧ -(manyN lam : Int) ≤ x ∧ x < chg lam) ∨ (x % 2 = 1 ∧ -(manyN lam : Int) ≤ x ∧ x < 1 - chg lam) := fun x => by
    rw [(sortDown_perm _).mem_iff]
    unfold coreRow chg
    rw [List.mem_append, List.mem_map, List.mem_map, hE, h3]
    constructor
    · rintro (⟨t, ht, rfl⟩ | ⟨t, ht, rfl⟩)
      · have := mem_rgI.mp ht
        left
        omega
      · have := mem_rgI.mp ht
        right
        omega
    · rintro (h | h)
      · exact .inl ⟨(x + manyN lam) / 2, mem_rgI.mpr (by omega), by omega⟩
      · exact .inr ⟨(x + manyN lam - 1) / 2, mem_rgI.mpr (by omega), by omega⟩
  have nd : (coreRow lam (manyOf lam)).Nodup := by
    unfold coreRow
    refine List.nodup_append.mpr ⟨?_, ?_, fun a ha b hb e => ?_⟩
    · unfold List.Nodup
      rw [List.pairwise_map]
      exact (rgI_pw _ _).imp fun h => by omega
    · unfold List.Nodup
      rw [List.pairwise_map]
      exact (rgI_pw _ _).imp fun h => by omega
    · obtain ⟨t, _, rfl⟩ := List.mem_map.mp ha
      obtain ⟨s, _, rfl⟩ := List.mem_map.mp hb
      omega
  have hd : (sortDown (coreRow lam (manyOf lam))).Pairwise (· > ·) := by
    have n2 : (sortDown (coreRow lam (manyOf lam))).Nodup := (sortDown_perm _).nodup_iff.mpr nd
    exact ((sortDown_pw _).and n2).imp fun h => by have := h.1; have := h.2; omega
  have hl : (sortDown (coreRow lam (manyOf lam))).length = manyN lam := by
    rw [sortDown_len]
    unfold coreRow
    rw [List.length_append, List.length_map, List.length_map, rgI_len, rgI_len, hE, h3]
    omega
  obtain ⟨P1, P2⟩ := rg_spec hd fun x hx => by
    rw [hl]
    rcases (mem x).mp hx with h | h <;> omega
  refine ⟨P1, fun x => ?_⟩
  rw [P2, mem, hl]
  unfold CoreG chg
  omega
theorem core_same {lam mu : List Int} (p : Part lam) (q : Part mu) (h : chg mu = chg lam) : coreRows mu = coreRows lam :=
  part_ext (core_spec q).1 (core_spec p).1 fun x => by rw [(core_spec q).2, (core_spec p).2, h]
theorem chg_off {lam mu : List Int} (p : Part lam) (o : OneOff lam mu) : chg mu = chg lam := by
  obtain ⟨q, _, g, hg, hn, hx⟩ := o
  have hm1 : lam.length ≤ 2 * (lam.length + mu.length) := by omega
  have hm2 : mu.length ≤ 2 * (lam.length + mu.length) := by omega
  have lo := notG_low hn
  rw [← chg_eq hm1 (by omega), ← chg_eq hm2 (by omega)]
  have key : (par mu (2 * (lam.length + mu.length)) 0).length = (par lam (2 * (lam.length + mu.length)) 0).length := by
    by_cases e : g % 2 = 0
    · have a1 := filter_ne_len (l := par lam (2 * (lam.length + mu.length)) 0) (n := g) (par_pw p _ _) ((mem_par p hm1).mpr ⟨hg, by omega, e⟩)
      have a2 := filter_ne_len (l := par mu (2 * (lam.length + mu.length)) 0) (n := g - 2) (par_pw q _ _) ((mem_par q hm2).mpr ⟨(hx _).mpr (.inr rfl), by omega, by omega⟩)
      have a3 : (par mu (2 * (lam.length + mu.length)) 0).filter (fun x => !decide (x = g - 2)) = (par lam (2 * (lam.length + mu.length)) 0).filter fun x => !decide (x = g) := by
        refine gt_ext ((par_pw q _ _).filter _) ((par_pw p _ _).filter _) fun x => ?_
        rw [List.mem_filter, List.mem_filter, mem_par q hm2, mem_par p hm1, hx]
        simp only [Bool.not_eq_true', decide_eq_false_iff_not]
        constructor
        · rintro ⟨⟨h1 | h1, h2, h3⟩, h4⟩
          · exact ⟨⟨h1.1, h2, h3⟩, h1.2⟩
          · exact absurd h1 h4
        · rintro ⟨⟨h1, h2, h3⟩, h4⟩
          exact ⟨⟨.inl ⟨h1, h4⟩, h2, h3⟩, fun z => hn (z ▸ h1)⟩
      rw [a3] at a2
      omega
    · have a3 : par mu (2 * (lam.length + mu.length)) 0 = par lam (2 * (lam.length + mu.length)) 0 := by
        refine gt_ext (par_pw q _ _) (par_pw p _ _) fun x => ?_
        rw [mem_par q hm2, mem_par p hm1, hx]
        constructor
        · rintro ⟨h1 | h1, h2, h3⟩
          · exact ⟨h1.1, h2, h3⟩
          · omega
        · rintro ⟨h1, h2, h3⟩
          exact ⟨.inl ⟨h1, fun z => e (z ▸ h3)⟩, h2, h3⟩
      rw [a3]
  rw [key]
/-- no domino can be taken off -/
theorem closed_of {lam : List Int} (p : Part lam) (h : lawStrips lam = []) : ∀ g, IsG lam g → IsG lam (g - 2) := by
  intro g hg
  by_cases hn : IsG lam (g - 2)
  · exact hn
  exfalso
  obtain ⟨i, rfl⟩ := hg
  have lo := notG_low hn
  have hi : i < lam.length := by
    rcases Nat.lt_or_ge i lam.length with z | z
    · exact z
    · rw [gp_out z] at lo
      omega
  have hs := List.flatMap_eq_nil_iff.mp h i (List.mem_range.mpr hi)
  obtain ⟨hH, hV⟩ := List.append_eq_nil_iff.mp hs
  have e2 : rx lam (i + 2) = lam.getD (i + 2) 0 := getX ..
  have e1 : rx lam (i + 1) = lam.getD (i + 1) 0 := getX ..
  have e0 : rx lam i = lam.getD i 0 := getX ..
  have l1 := gp_lt p (show i < i + 1 by omega)
  have l2 := gp_lt p (show i + 1 < i + 2 by omega)
  have n1 : gp lam (i + 1) ≠ gp lam i - 2 := fun z => hn ⟨i + 1, z.symm⟩
  have n2 : gp lam (i + 2) ≠ gp lam i - 2 := fun z => hn ⟨i + 2, z.symm⟩
  unfold stripH at hH
  unfold stripV at hV
  rw [e0, e1] at hH
  rw [e0, e1, e2] at hV
  by_cases hc : gp lam (i + 1) = gp lam i - 1
  · rw [if_pos (by unfold gp at *; omega)] at hV
    cases hV
  · rw [if_pos (by unfold gp at *; omega)] at hH
    cases hH
theorem closed_down {lam : List Int} (hc : ∀ g, IsG lam g → IsG lam (g - 2)) {x : Int} (hx : IsG lam x) : ∀ k : Nat, IsG lam (x - 2 * k)
  | 0 => by simpa using hx
  | k + 1 => by
    have := hc _ (closed_down hc hx k)
    rw [show x - 2 * ((k + 1 : Nat) : Int) = x - 2 * k - 2 by omega]
    exact this
theorem closed_iff {lam : List Int} (p : Part lam) (hc : ∀ g, IsG lam g → IsG lam (g - 2)) {m : Nat} (hm : lam.length ≤ m) (he : m % 2 = 0) {c : Int} (h0 : c = 0 ∨ c = 1) {x : Int} (hx : x % 2 = c) :
    IsG lam x ↔ x < 2 * ((par lam m c).length : Int) - m + c := by
  by_cases hl : x < -(m : Int)
  · exact ⟨fun _ => by omega, fun _ => isG_low (by omega)⟩
  · obtain ⟨t, ht⟩ : ∃ t : Nat, x = 2 * (t : Int) + c - m := ⟨((x - c + m) / 2).toNat, by omega⟩
    have mk : ∀ n : Nat, ((List.range n).map fun s : Nat => 2 * (s : Int) + c - m).Nodup := fun n => by
      unfold List.Nodup
      rw [List.pairwise_map]
      exact List.pairwise_lt_range.imp fun h => by omega
    have ml : ∀ n : Nat, ((List.range n).map fun s : Nat => 2 * (s : Int) + c - m).length = n := fun n => by rw [List.length_map, List.length_range]
    constructor
    · intro g
      have := sub_len (mk (t + 1)) (m := par lam m c) fun y hy => by
        obtain ⟨s, hs, rfl⟩ := List.mem_map.mp hy
        have hs := List.mem_range.mp hs
        refine (mem_par p hm).mpr ⟨?_, by omega, by omega⟩
        have := closed_down hc g (t - s)
        rw [show 2 * (s : Int) + c - m = x - 2 * ((t - s : Nat) : Int) by omega]
        exact this
      rw [ml] at this
      omega
    · intro h
      by_cases g : IsG lam x
      · exact g
      exfalso
      have := sub_len (nodup_of_gt (par_pw p m c)) (m := (List.range t).map fun s : Nat => 2 * (s : Int) + c - m) fun y hy => by
        obtain ⟨y1, y2, y3⟩ := (mem_par p hm).mp hy
        refine List.mem_map.mpr ⟨((y - c + m) / 2).toNat, List.mem_range.mpr ?_, by omega⟩
        by_cases z : y < x
        · omega
        · exfalso
          have := closed_down hc y1 ((y - x) / 2).toNat
          rw [show y - 2 * ((((y - x) / 2).toNat : Nat) : Int) = x by omega] at this
          exact g this
      rw [ml] at this
      omega
theorem core_done {lam : List Int} (p : Part lam) (h : lawStrips lam = []) : coreRows lam = lam := by
  have hc := closed_of p h
  obtain ⟨h1, h2, _⟩ := manyN_ok lam
  have all := par_all lam (manyN lam)
  refine part_ext (core_spec p).1 p fun x => ?_
  rw [(core_spec p).2]
  unfold CoreG chg
  by_cases e : x % 2 = 0
  · rw [closed_iff p hc h1 h2 (.inl rfl) e]
    omega
  · have e1 : x % 2 = 1 := by omega
    rw [closed_iff p hc h1 h2 (.inr rfl) e1]
    omega
theorem mathC : MathC where
  step := fun lam q p h => by
    have o := strips_one p h
    exact ⟨o.part, core_same p o.part (chg_off p o), o.sum⟩
  done := fun lam p h => core_done p h
theorem found_walk {lam : List Int} (p : Part lam) : walkHooks lam = sortUp (foundHooks lam) := by
  unfold walkHooks foundHooks
  congr 1
  refine List.map_congr_left fun q hq => ?_
  obtain ⟨a, b, c, d⟩ := mem_cellsTo.mp hq
  have e : ((q.1.toNat : Nat) : Int) = q.1 := by omega
  have := walk_hk p (i := q.1.toNat) (j := q.2) (by omega) c d
  rw [e] at this
  exact this
theorem gaps_all {lam : List Int} (p : Part lam) (low : Int) : gapsFrom lam low = (rgI low (lam.headD 0 + 1)).filter (lawIsGap lam) := by
  unfold gapsFrom
  have hm : lam.length ≤ max lam.length (-low).toNat := by omega
  have e : max (lam.length : Int) (-low) = ((max lam.length (-low).toNat : Nat) : Int) := by omega
  rw [e, firstGaps_eq hm]
  refine sorted_ext ((List.pairwise_reverse.mpr (gapsTo_pw p _)).filter _) ((rgI_pw _ _).filter _) fun x => ?_
  rw [List.mem_filter, List.mem_filter, List.mem_reverse, mem_gapsTo p hm, mem_rgI, lawIsGap_iff p, decide_eq_true_iff]
  constructor
  · rintro ⟨⟨h1, h2⟩, h3⟩
    have := isG_top p h1
    have e2 : (lam.take 1).sum = lam.headD 0 := by cases lam <;> simp
    exact ⟨⟨h3, by omega⟩, h1⟩
  · rintro ⟨⟨h1, h2⟩, h3⟩
    exact ⟨⟨h3, by omega⟩, h1⟩
theorem mathP : MathP where
  cjp := fun _ p => cj_part p
  cjs := fun _ p => cj_sum p
  cjcj := fun _ p => cj_cj p
  hooks := fun _ p => found_walk p
  hookscj := fun lam p => by
    have h := found_cj p
    exact (sortUp_of ((sortUp_perm _).trans h) (sortUp_pw _))
  falls := fun _ n p => siteFalls_eq p n
  fallscj := fun lam n p => by
    rw [siteFalls_eq (cj_part p)]
    have h := cj_gap p n
    have e : (0 - 1 - n : Int) = -1 - n := by omega
    rw [e]
    by_cases g : IsG lam n
    · have : lawIsGap (lawColumns lam) (-1 - n) = false := (gap_f (cj_part p)).mpr fun z => h.mp z g
      rw [this, (lawIsGap_iff p n).mpr g]
      rfl
    · rw [(lawIsGap_iff (cj_part p) _).mpr (h.mpr g), (gap_f p).mpr g]
      rfl
  gaps := fun _ low p => gaps_all p low
end K20
end
section
set_option Elab.async false
set_option linter.all false
set_option maxRecDepth 100000
set_option maxHeartbeats 4000000
namespace K20
open PySem PySem.Spec PyProof.Rows L2 LamX U Evl L2H HotX LHot LX LV NdefX
/-! ### steps, by program -/
local macro_rules | `(tactic| walk_at "kp") => `(tactic| first
  | assumption
  | exact sqA_of (by assumption)
  | exact sqB_of (by assumption)
  | exact sqL_of (by assumption)
  | exact sqT_of (by assumption)
  | exact Or.inl (by assumption)
  | exact Or.inr (by assumption)
  | exact Gr.refl _ _
  | exact GrA.gr (by assumption)
  | (apply Gr.trans ?_ (by first | assumption | exact GrA.gr (by assumption)); walk_at "kp")
  | (apply Gr.xd; (first | assumption | exact GrA.gr (T := []) (by assumption)); walk_at "kp")
  | (apply Gr.sq; (first | assumption | exact GrA.gr (T := []) (by assumption)); walk_at "kp")
  | (apply Gr.sqL; (first | assumption | exact GrA.gr (T := []) (by assumption)); walk_at "kp")
  | (apply Gr.sqT; (first | assumption | exact GrA.gr (T := []) (by assumption)); walk_at "kp")
  | (apply Gr.lst; (first | assumption | exact GrA.gr (T := []) (by assumption)); walk_at "kp")
  | (apply Gr.tup; (first | assumption | exact GrA.gr (T := []) (by assumption)); walk_at "kp"))
local macro_rules | `(tactic| walk_at "s") => `(tactic| first
  | with_reducible first
    | refine w_seq ?_ | refine w_asg ?_ | refine w_gname ?_ | refine w_if ?_ | refine w_ret ?_ | refine w_next ?_ | refine w_drop ?_ | refine w_retN ?_ | refine w_brk ?_ | refine w_cont ?_ | refine w_gsub ?_
    | refine w_op ?_ | refine w_c ?_ | refine w_nil ?_ | refine w_cons ?_ | refine w_cb ?_ | refine w_un ?_
    | refine w_I0 ?_ | refine w_U ?_ | refine w_add ?_ | refine w_test ?_ | refine w_tB ?_ | refine w_tr ?_ | refine w_exn ?_ | refine w_trn ?_ | refine w_and ?_ | refine w_or ?_ | refine w_not ?_ | refine w_andV ?_ | refine w_orV ?_ | refine w_notV ?_ | refine w_ifE ?_
    | refine w_eqI ?_ | refine w_neI ?_ | refine w_eqS ?_ | refine w_neS ?_ | refine w_eqB ?_ | refine w_neB ?_ | refine w_isNo ?_ | refine w_notN ?_
    | refine w_call0 ?_ | refine w_tupK ?_ | refine w_lstK ?_ | refine w_bm ?_ | refine w_nop ?_ | refine w_part ?_ | refine w_exi ?_ | refine w_sl ?_
    | refine w_lcS ?_ | refine w_lcR1 ?_ | refine w_lcR2 ?_ | refine w_lcE ?_ | refine w_frS ?_ | refine w_frR1 ?_ | refine w_frR2 ?_ | refine w_frE ?_ | refine w_frT ?_
    | refine w_tYes ?_ | refine w_lcH ?_ | refine w_callE ?_ | refine w_iteD ?_ | refine w_iteND ?_ | refine w_raise ?_ | refine raK1 ?_ | refine raK2 ?_ | refine w_iteNT ?_ | refine w_iteNF ?_ | refine w_ckw ?_ | refine w_callN ?_ | refine w_m1 ?_ | refine w_yes1 ?_ | refine w_iteT ?_ | refine w_iteF ?_ | refine w_abs ?_ | refine w_max2 ?_ | refine w_max3 ?_ | refine w_min2 ?_ | refine w_intI ?_
  | (with_reducible apply w_var; with_unfolding_all rfl)
  | (with_reducible apply w_lenI; walk_at "kp")
  | (with_reducible apply w_len; walk_at "kp")
  | (with_reducible apply w_sum; walk_at "kp")
  | (with_reducible refine lstK ?_ ?_; exact Nat.le_of_ble_eq_true rfl)
  | (with_reducible refine tupK ?_ ?_; exact Nat.le_of_ble_eq_true rfl)
  | (with_reducible apply w_list; walk_at "kp")
  | (with_reducible apply w_tuple; walk_at "kp")
  | (with_reducible apply w_slI; walk_at "kp")
  | (with_reducible apply w_inI; walk_at "kp")
  | (with_reducible apply w_notInI; walk_at "kp"))
local macro_rules | `(tactic| walk_at "go") => `(tactic| repeat' (walk_at "s"))

section
variable {P : Program} {w : World} {K : PySem.W.Frag} {mg : Str → Option Value} {base : Heap}
def forElt (k : Nat) : Stmt → Expr
  | .For _ (.List es _) _ _ _ => match es.getD k (.Constant .none 0 ⟨0, 0, 0, 0⟩) with
    | .Tuple (e :: _) _ _ => e
    | e => e
  | _ => .Constant .none 0 ⟨0, 0, 0, 0⟩
abbrev eF (k : Nat) : Expr := forElt k ((defBody s__law_faults_told).getD 5 (.Pass ⟨0, 0, 0, 0⟩))
theorem sc__law_faults_told : FnScope ["jar", "lam", "none", "many", "wide", "far", "near", "edge", "bent", "at", "call", "due", "i"] ["jar", "lam"] (defScope s__law_faults_told) := ⟨rfl, rfl, rfl, by decide +kernel, rfl, by decide +kernel, by decide +kernel⟩
theorem nsF0 : NScope ["bent"] [] ["bent"] (lamS (eF 0)) := ⟨rfl, rfl, rfl, by decide +kernel, rfl, by decide +kernel, by decide +kernel, by decide +kernel, by decide +kernel⟩
theorem hfF0 : ∀ y ∈ (lamS (eF 0)).names, y.2 = .free → (defScope s__law_faults_told).names.lookup y.1 = some .cell ∨ (defScope s__law_faults_told).names.lookup y.1 = some .free := by decide +kernel
theorem nsF1 : NScope ["bent"] [] ["bent"] (lamS (eF 1)) := ⟨rfl, rfl, rfl, by decide +kernel, rfl, by decide +kernel, by decide +kernel, by decide +kernel, by decide +kernel⟩
theorem hfF1 : ∀ y ∈ (lamS (eF 1)).names, y.2 = .free → (defScope s__law_faults_told).names.lookup y.1 = some .cell ∨ (defScope s__law_faults_told).names.lookup y.1 = some .free := by decide +kernel
theorem nsF2 : NScope ["none"] [] ["none"] (lamS (eF 2)) := ⟨rfl, rfl, rfl, by decide +kernel, rfl, by decide +kernel, by decide +kernel, by decide +kernel, by decide +kernel⟩
theorem hfF2 : ∀ y ∈ (lamS (eF 2)).names, y.2 = .free → (defScope s__law_faults_told).names.lookup y.1 = some .cell ∨ (defScope s__law_faults_told).names.lookup y.1 = some .free := by decide +kernel
theorem nsF3 : NScope ["none"] [] ["none"] (lamS (eF 3)) := ⟨rfl, rfl, rfl, by decide +kernel, rfl, by decide +kernel, by decide +kernel, by decide +kernel, by decide +kernel⟩
theorem hfF3 : ∀ y ∈ (lamS (eF 3)).names, y.2 = .free → (defScope s__law_faults_told).names.lookup y.1 = some .cell ∨ (defScope s__law_faults_told).names.lookup y.1 = some .free := by decide +kernel
theorem nsF4 : NScope ["bent"] [] ["bent"] (lamS (eF 4)) := ⟨rfl, rfl, rfl, by decide +kernel, rfl, by decide +kernel, by decide +kernel, by decide +kernel, by decide +kernel⟩
theorem hfF4 : ∀ y ∈ (lamS (eF 4)).names, y.2 = .free → (defScope s__law_faults_told).names.lookup y.1 = some .cell ∨ (defScope s__law_faults_told).names.lookup y.1 = some .free := by decide +kernel
theorem nsF5 : NScope ["bent", "far"] [] ["bent", "far"] (lamS (eF 5)) := ⟨rfl, rfl, rfl, by decide +kernel, rfl, by decide +kernel, by decide +kernel, by decide +kernel, by decide +kernel⟩
theorem hfF5 : ∀ y ∈ (lamS (eF 5)).names, y.2 = .free → (defScope s__law_faults_told).names.lookup y.1 = some .cell ∨ (defScope s__law_faults_told).names.lookup y.1 = some .free := by decide +kernel
theorem nsF6 : NScope ["none", "far"] [] ["none", "far"] (lamS (eF 6)) := ⟨rfl, rfl, rfl, by decide +kernel, rfl, by decide +kernel, by decide +kernel, by decide +kernel, by decide +kernel⟩
theorem hfF6 : ∀ y ∈ (lamS (eF 6)).names, y.2 = .free → (defScope s__law_faults_told).names.lookup y.1 = some .cell ∨ (defScope s__law_faults_told).names.lookup y.1 = some .free := by decide +kernel
theorem nsF7 : NScope ["lam", "far"] [] ["lam", "far"] (lamS (eF 7)) := ⟨rfl, rfl, rfl, by decide +kernel, rfl, by decide +kernel, by decide +kernel, by decide +kernel, by decide +kernel⟩
theorem hfF7 : ∀ y ∈ (lamS (eF 7)).names, y.2 = .free → (defScope s__law_faults_told).names.lookup y.1 = some .cell ∨ (defScope s__law_faults_told).names.lookup y.1 = some .free := by decide +kernel
theorem nsF8 : NScope ["lam", "far"] [] ["lam", "far"] (lamS (eF 8)) := ⟨rfl, rfl, rfl, by decide +kernel, rfl, by decide +kernel, by decide +kernel, by decide +kernel, by decide +kernel⟩
theorem hfF8 : ∀ y ∈ (lamS (eF 8)).names, y.2 = .free → (defScope s__law_faults_told).names.lookup y.1 = some .cell ∨ (defScope s__law_faults_told).names.lookup y.1 = some .free := by decide +kernel
theorem nsF9 : NScope ["wide"] [] ["wide"] (lamS (eF 9)) := ⟨rfl, rfl, rfl, by decide +kernel, rfl, by decide +kernel, by decide +kernel, by decide +kernel, by decide +kernel⟩
theorem hfF9 : ∀ y ∈ (lamS (eF 9)).names, y.2 = .free → (defScope s__law_faults_told).names.lookup y.1 = some .cell ∨ (defScope s__law_faults_told).names.lookup y.1 = some .free := by decide +kernel
theorem nsF10 : NScope ["wide"] [] ["wide"] (lamS (eF 10)) := ⟨rfl, rfl, rfl, by decide +kernel, rfl, by decide +kernel, by decide +kernel, by decide +kernel, by decide +kernel⟩
theorem hfF10 : ∀ y ∈ (lamS (eF 10)).names, y.2 = .free → (defScope s__law_faults_told).names.lookup y.1 = some .cell ∨ (defScope s__law_faults_told).names.lookup y.1 = some .free := by decide +kernel
theorem Other.to {H1 H2 : Hp} {v : V} (h : Other H1 v) (k : ∀ b o, H1 b = some o → (∀ φ, o ≠ .ext φ) → H2 b = some o) : Other H2 v := by
  cases h with
  | non => exact .non
  | int i => exact .int i
  | bl b => exact .bl b
  | dct h => exact .dct (k _ _ h fun φ z => by cases z)
theorem RowsArg.to {H1 H2 : Hp} {v : V} {xs : List V} (h : RowsArg K H1 v xs) (k : ∀ b o, H1 b = some o → (∀ φ, o ≠ .ext φ) → H2 b = some o) : RowsArg K H2 v xs := by
  cases h with
  | seq hs hl hk hz => exact .seq (hs.to (k _)) hl (fun x hx => (hk x hx).to k) hz
  | bare => exact .bare
  | other ho => exact .other (Other.to ho k)
  | text hz hb hw hl => exact .text hz hb hw hl
abbrev ErrBad (K : PySem.W.Frag) (H4 : Hp) (i : Int) : XK := fun c d H5 => c = .ref (He.ga K "BadShape") ∧ ∃ dd, d = some dd ∧ Gr (TT K) H4 H5 ∧ H5 dd = some (.xd [("at", .int i)])
abbrev ErrMany (K : PySem.W.Frag) (H4 : Hp) (z : Str) (i : Int) : XK := fun c d H5 => c = .ref (He.ga K "TooMany") ∧ ∃ dd, d = some dd ∧ Gr (TT K) H4 H5 ∧ H5 dd = some (.xd [("count", .int i), ("what", .str z)])
theorem ends_bad {f : Addr} {H4 : Hp} {tb : XK → TE} {fr : List Str} {vals : L2.St} {i : Int} (TH : Thunk P w K mg base 8 H4 f (spLam tb fr vals))
    (h : ∀ cs, (∀ b o, H4 b = some o → (∀ φ, o ≠ .ext φ) → mix cs HN H4 b = some o) → ∀ Q E, Bad K (TT K) (mix cs HN H4) E i → tb E (startF fr [] vals) (mix cs HN H4) Q) : Ends_ P w K mg base 8 H4 f (fun _ _ => False) (ErrBad K H4 i) := by
  refine ⟨_, TH, fun Q2 E2 ho he => ?_⟩
  intro cs hpn hnc
  exact h cs (mix_to hpn) _ _ fun d H' g e hfr => he _ _ _ ⟨rfl, d, rfl, gr_out hpn hnc hfr g, mix_from hfr _ _ e⟩
theorem ends_many {f : Addr} {H4 : Hp} {tb : XK → TE} {fr : List Str} {vals : L2.St} {z : Str} {i : Int} (TH : Thunk P w K mg base 8 H4 f (spLam tb fr vals))
    (h : ∀ cs, (∀ b o, H4 b = some o → (∀ φ, o ≠ .ext φ) → mix cs HN H4 b = some o) → ∀ Q E, Many K (TT K) (mix cs HN H4) E z i → tb E (startF fr [] vals) (mix cs HN H4) Q) : Ends_ P w K mg base 8 H4 f (fun _ _ => False) (ErrMany K H4 z i) := by
  refine ⟨_, TH, fun Q2 E2 ho he => ?_⟩
  intro cs hpn hnc
  exact h cs (mix_to hpn) _ _ fun d H' g e hfr => he _ _ _ ⟨rfl, d, rfl, gr_out hpn hnc hfr g, mix_from hfr _ _ e⟩

theorem lamO_tbl {f : Addr} {F : NF} {b : Expr} : ∀ ps : Array Value, LamO f F b ≠ .tbl ps := fun _ z => by cases z
theorem codeO_tbl {c : Addr} {q : Str} : ∀ ps : Array Value, CodeO c q ≠ .tbl ps := fun _ z => by cases z

theorem w_disp1 {σ : L2.St} {H : Hp} {Q : VK} (h : ∀ p H', H p = none → GrA H H' → (∃ kvs, H' p = some (.dK kvs)) → Q (.ref p) H') : tDisp [((tC (.int 1)), (tC (.int 1)))] σ H Q := by
  intro p hp
  refine ⟨upd_same, [(Sum.inl 1, .int 1)], rfl, by decide, ?_⟩
  rw [upd_upd]
  exact h p _ hp (.new hp) ⟨_, upd_same⟩
theorem w_dnew {σ : L2.St} {H : Hp} {Q : VK} (h : ∀ p H', H p = none → GrA H H' → (∃ kvs, H' p = some (.dK kvs)) → Q (.ref p) H') : tDNewK σ H Q := fun p hp => h p _ hp (.new hp) ⟨_, upd_same⟩
theorem sum_ones (m : Int) (h : 0 ≤ m) : ((rgI 0 m).map fun _ => (1 : Int)).sum = m := by
  have key : ∀ l : List Int, (l.map fun _ => (1 : Int)).sum = l.length := by
    intro l
    induction l with
    | nil => rfl
    | cons x t ih =>
      rw [List.map_cons, List.sum_cons, List.length_cons, ih]
      omega
  rw [key, rgI_len]
  omega
theorem part_ones (m : Int) : Part ((rgI 0 m).map fun _ => (1 : Int)) := by
  refine ⟨?_, fun x hx => ?_⟩
  · rw [List.pairwise_map]
    exact (List.pairwise_of_forall (fun _ _ => by omega))
  · obtain ⟨_, _, rfl⟩ := List.mem_map.mp hx
    exact Int.le_refl _
theorem txt_arg {K : PySem.W.Frag} {H : Hp} (z : Str) (h : (decide (z.length ≤ 60000) && !decide (z = "bare") && (Txt.split z " ").all (fun y => decide (y.length ≤ 640) && (!isDig y || (PySem.intText? y).isSome)) && decide ((Txt.split z " ").length ≤ 60000)) = true) : RowsArg K H (.str z) ((Txt.split z " ").map worth) := by
  simp only [Bool.and_eq_true, decide_eq_true_eq, Bool.not_eq_true', decide_eq_false_iff_not, List.all_eq_true, Bool.or_eq_true] at h
  obtain ⟨⟨⟨h1, h2⟩, h3⟩, h4⟩ := h
  refine .text h1 h2 (fun y hy => ⟨(h3 y hy).1, fun e => ?_⟩) h4
  rcases (h3 y hy).2 with z | z
  · rw [e] at z; cases z
  · exact z
/-- the lambdas of the frame -/
def spFaultsTold (K : PySem.W.Frag) : Sp := fun vs H Q _ => ∃ (J a : Addr) (lam : List Int), vs = [.ref J, .ref a] ∧ Tabs (TT K) H ∧ Jar K H J ∧ SqT K H a (lam.map V.int) ∧ Part lam ∧ lam.sum ≤ 30 ∧ ∀ H', Gr (TT K) H H' → Q (.bl true) H'
theorem fn__law_faults_told (M : MathP) (G : Glob K mg) (X : Exs K) (h__law_bent_stair : Has P w K mg base "_law_bent_stair" 3 ["jar", "lam"] (spBent K (TT K))) (h__law_pick : Has P w K mg base "_law_pick" 2 ["jar", "menu"] (spPick K)) (h__law_reach : Has P w K mg base "_law_reach" 2 ["jar", "least", "most"] (spReach K))
    (h__law_refuses : Has P w K mg base "_law_refuses" 10 ["call", "parts"] (spRefuses P w K mg base (TT K) 8)) (h__law_like : Has P w K mg base "_law_like" 5 ["told", "due"] (spLikeN K (TT K) 4)) (h_read_shape : Has P w K mg base "read_shape" 6 ["thing"] (spReadShape K (TT K))) (h__law_is_gap : Has P w K mg base "_law_is_gap" 1 ["lam", "n"] (spIsGap K (TT K)))
    (h_falling : Has P w K mg base "falling" 6 ["shape", "site"] (spFalling K (TT K))) (h_gaps : Has P w K mg base "gaps" 6 ["shape", "low"] (spGaps K (TT K))) (h_turned : Has P w K mg base "turned" 7 ["shape"] (spTurned K (TT K))) (h_hooks : Has P w K mg base "hooks" 7 ["shape"] (spHooksP K (TT K))) (h_core : Has P w K mg base "core" 7 ["shape"] (spCore K (TT K)))
    (k_read_shape_thing : HasK0 P w K mg base "read_shape" 6 ["thing"] ["thing"] (fun zs => zs) (fun zs => zs) (spReadShape K (TT K)))
    (TB : TabB base mg (He.codeOf K ("_law_faults_told", none)) (P2 K)) {fd : FuncData} (F : FunD K "_law_faults_told" "_law_faults_told" (defArgs s__law_faults_told) (defBody s__law_faults_told) (defScope s__law_faults_told) [] [] (He.ga K "_law_faults_told") fd) :
    Has P w K mg base "_law_faults_told" 12 ["jar", "lam"] (spFaultsTold K) := by
  have nd := (sc__law_faults_told).nd
  refine ⟨G.g__law_faults_told, F.kp, fd, okC (q := ("_law_faults_told", none)) F sc__law_faults_told (fun vs H Q E h => ?_) (fun A outer s H vs Q E hr h => ?_), F.bindsN fun _ _ _ _ _ _ us hl => match us, hl with | [_, _], _ => rfl⟩
  · obtain ⟨J, a, lam, rfl, _⟩ := h
    rfl
  · have hm : (P2 K, q2) ∈ TT K := List.mem_cons_self ..
    have hu : ∀ p ∈ TT K, p.1 = P2 K → p.2 = q2 := fun p hp e => by
      have z2 : p = (P2 K, q2) := by simpa using hp
      rw [z2]
    refine ⟨(tSeq (tAsg (tCall (spBent K (TT K)) [] E0 (tCons (tVar 0) (tCons (tVar 1) tNil))) (gTup K 2 (gCons (gName 8) (gCons (gName 9) gNil))))
  (tSeq (tAsg (tCall (spPick K) [] E0 (tCons (tVar 0) (tCons (tLst (tCons (tC .non) (tCons (tC (.int 5)) (tCons (tC (.bl true)) (tCons (tDisp [((tC (.int 1)), (tC (.int 1)))]) (tCons tDNewK (tCons (tC (.str "")) (tCons (tC (.str "Bare")) (tCons (tC (.str "x 1")) tNil))))))))) tNil))) (gName 2))
  (tSeq (tAsg (tCall (spReach K) [] E0 (tCons (tVar 0) (tCons (tC (.int 31)) (tCons (tC (.int 45)) tNil)))) (gName 3))
  (tSeq (tAsg (tCall (spPick K) [] E0 (tCons (tVar 0) (tCons (tLst (tCons (tTup (tCons (tVar 3) tNil)) (tCons (tTup (tCons (tOp qSub (tVar 3) (tC (.int 1))) (tCons (tC (.int 1)) tNil))) (tCons (tCB (uTup K) (tCons (tLc (iRng1 (tCons (tVar 3) tNil)) (gName 12) tYes (tC (.int 1)) [12]) tNil)) tNil)))) tNil))) (gName 4))
  (tSeq (tAsg (tCall (spPick K) [] E0 (tCons (tVar 0) (tCons (tLst (tCons (tC (.int 61)) (tCons (tOp qSub (tC (.int 0)) (tC (.int 61))) (tCons (tC (.int 75)) (tCons (tOp qSub (tC (.int 0)) (tC (.int 1000))) tNil))))) tNil))) (gName 5))
  (tSeq (tFor (iSeq K (tLst (tCons (tTup (tCons (tLamV (TT K) (lamF (cxOf (L2N.CX P w) P w K mg base ["jar", "lam", "none", "many", "wide", "far", "near", "edge", "bent", "at", "call", "due", "i"] "_law_faults_told" (defScope s__law_faults_told) (He.fAd K ("_law_faults_told", none)) (.ref (He.codeOf K ("_law_faults_told", none))) A outer s H E).nox (lamP (eF 0)) (lamS (eF 0))) (lamB (eF 0))) (tCons (tLst (tCons (tC (.str "BadShape")) (tCons (tVar 9) tNil))) tNil))) (tCons (tTup (tCons (tLamV (TT K) (lamF (cxOf (L2N.CX P w) P w K mg base ["jar", "lam", "none", "many", "wide", "far", "near", "edge", "bent", "at", "call", "due", "i"] "_law_faults_told" (defScope s__law_faults_told) (He.fAd K ("_law_faults_told", none)) (.ref (He.codeOf K ("_law_faults_told", none))) A outer s H E).nox (lamP (eF 1)) (lamS (eF 1))) (lamB (eF 1))) (tCons (tLst (tCons (tC (.str "BadShape")) (tCons (tVar 9) tNil))) tNil))) (tCons (tTup (tCons (tLamV (TT K) (lamF (cxOf (L2N.CX P w) P w K mg base ["jar", "lam", "none", "many", "wide", "far", "near", "edge", "bent", "at", "call", "due", "i"] "_law_faults_told" (defScope s__law_faults_told) (He.fAd K ("_law_faults_told", none)) (.ref (He.codeOf K ("_law_faults_told", none))) A outer s H E).nox (lamP (eF 2)) (lamS (eF 2))) (lamB (eF 2))) (tCons (tLst (tCons (tC (.str "BadShape")) (tCons (tC (.int 0)) tNil))) tNil))) (tCons (tTup (tCons (tLamV (TT K) (lamF (cxOf (L2N.CX P w) P w K mg base ["jar", "lam", "none", "many", "wide", "far", "near", "edge", "bent", "at", "call", "due", "i"] "_law_faults_told" (defScope s__law_faults_told) (He.fAd K ("_law_faults_told", none)) (.ref (He.codeOf K ("_law_faults_told", none))) A outer s H E).nox (lamP (eF 3)) (lamS (eF 3))) (lamB (eF 3))) (tCons (tLst (tCons (tC (.str "BadShape")) (tCons (tC (.int 0)) tNil))) tNil))) (tCons (tTup (tCons (tLamV (TT K) (lamF (cxOf (L2N.CX P w) P w K mg base ["jar", "lam", "none", "many", "wide", "far", "near", "edge", "bent", "at", "call", "due", "i"] "_law_faults_told" (defScope s__law_faults_told) (He.fAd K ("_law_faults_told", none)) (.ref (He.codeOf K ("_law_faults_told", none))) A outer s H E).nox (lamP (eF 4)) (lamS (eF 4))) (lamB (eF 4))) (tCons (tLst (tCons (tC (.str "BadShape")) (tCons (tVar 9) tNil))) tNil))) (tCons (tTup (tCons (tLamV (TT K) (lamF (cxOf (L2N.CX P w) P w K mg base ["jar", "lam", "none", "many", "wide", "far", "near", "edge", "bent", "at", "call", "due", "i"] "_law_faults_told" (defScope s__law_faults_told) (He.fAd K ("_law_faults_told", none)) (.ref (He.codeOf K ("_law_faults_told", none))) A outer s H E).nox (lamP (eF 5)) (lamS (eF 5))) (lamB (eF 5))) (tCons (tLst (tCons (tC (.str "BadShape")) (tCons (tVar 9) tNil))) tNil))) (tCons (tTup (tCons (tLamV (TT K) (lamF (cxOf (L2N.CX P w) P w K mg base ["jar", "lam", "none", "many", "wide", "far", "near", "edge", "bent", "at", "call", "due", "i"] "_law_faults_told" (defScope s__law_faults_told) (He.fAd K ("_law_faults_told", none)) (.ref (He.codeOf K ("_law_faults_told", none))) A outer s H E).nox (lamP (eF 6)) (lamS (eF 6))) (lamB (eF 6))) (tCons (tLst (tCons (tC (.str "BadShape")) (tCons (tC (.int 0)) tNil))) tNil))) (tCons (tTup (tCons (tLamV (TT K) (lamF (cxOf (L2N.CX P w) P w K mg base ["jar", "lam", "none", "many", "wide", "far", "near", "edge", "bent", "at", "call", "due", "i"] "_law_faults_told" (defScope s__law_faults_told) (He.fAd K ("_law_faults_told", none)) (.ref (He.codeOf K ("_law_faults_told", none))) A outer s H E).nox (lamP (eF 7)) (lamS (eF 7))) (lamB (eF 7))) (tCons (tLst (tCons (tC (.str "TooMany")) (tCons (tC (.str "site")) (tCons (tCB (uAbs) (tCons (tVar 5) tNil)) tNil)))) tNil))) (tCons (tTup (tCons (tLamV (TT K) (lamF (cxOf (L2N.CX P w) P w K mg base ["jar", "lam", "none", "many", "wide", "far", "near", "edge", "bent", "at", "call", "due", "i"] "_law_faults_told" (defScope s__law_faults_told) (He.fAd K ("_law_faults_told", none)) (.ref (He.codeOf K ("_law_faults_told", none))) A outer s H E).nox (lamP (eF 8)) (lamS (eF 8))) (lamB (eF 8))) (tCons (tLst (tCons (tC (.str "TooMany")) (tCons (tC (.str "site")) (tCons (tCB (uAbs) (tCons (tVar 5) tNil)) tNil)))) tNil))) (tCons (tTup (tCons (tLamV (TT K) (lamF (cxOf (L2N.CX P w) P w K mg base ["jar", "lam", "none", "many", "wide", "far", "near", "edge", "bent", "at", "call", "due", "i"] "_law_faults_told" (defScope s__law_faults_told) (He.fAd K ("_law_faults_told", none)) (.ref (He.codeOf K ("_law_faults_told", none))) A outer s H E).nox (lamP (eF 9)) (lamS (eF 9))) (lamB (eF 9))) (tCons (tLst (tCons (tC (.str "TooMany")) (tCons (tC (.str "cells")) (tCons (tVar 3) tNil)))) tNil))) (tCons (tTup (tCons (tLamV (TT K) (lamF (cxOf (L2N.CX P w) P w K mg base ["jar", "lam", "none", "many", "wide", "far", "near", "edge", "bent", "at", "call", "due", "i"] "_law_faults_told" (defScope s__law_faults_told) (He.fAd K ("_law_faults_told", none)) (.ref (He.codeOf K ("_law_faults_told", none))) A outer s H E).nox (lamP (eF 10)) (lamS (eF 10))) (lamB (eF 10))) (tCons (tLst (tCons (tC (.str "TooMany")) (tCons (tC (.str "cells")) (tCons (tVar 3) tNil)))) tNil))) tNil))))))))))))) (gTup K 2 (gCons (gName 10) (gCons (gName 11) gNil))) (tIfS (tNot (L2.tB (tPin P w K mg base [⟨lamF (cxOf (L2N.CX P w) P w K mg base ["jar", "lam", "none", "many", "wide", "far", "near", "edge", "bent", "at", "call", "due", "i"] "_law_faults_told" (defScope s__law_faults_told) (He.fAd K ("_law_faults_told", none)) (.ref (He.codeOf K ("_law_faults_told", none))) A outer s H E).nox (lamP (eF 0)) (lamS (eF 0)), lamB (eF 0), [8], 8, fun vals => spLam (fun E => tCall (spReadShape K (TT K)) [] E (tCons (tVar 0) tNil)) ["bent"] vals⟩, ⟨lamF (cxOf (L2N.CX P w) P w K mg base ["jar", "lam", "none", "many", "wide", "far", "near", "edge", "bent", "at", "call", "due", "i"] "_law_faults_told" (defScope s__law_faults_told) (He.fAd K ("_law_faults_told", none)) (.ref (He.codeOf K ("_law_faults_told", none))) A outer s H E).nox (lamP (eF 1)) (lamS (eF 1)), lamB (eF 1), [8], 8, fun vals => spLam (fun E => tCall (spHooksP K (TT K)) [] E (tCons (tVar 0) tNil)) ["bent"] vals⟩, ⟨lamF (cxOf (L2N.CX P w) P w K mg base ["jar", "lam", "none", "many", "wide", "far", "near", "edge", "bent", "at", "call", "due", "i"] "_law_faults_told" (defScope s__law_faults_told) (He.fAd K ("_law_faults_told", none)) (.ref (He.codeOf K ("_law_faults_told", none))) A outer s H E).nox (lamP (eF 2)) (lamS (eF 2)), lamB (eF 2), [2], 8, fun vals => spLam (fun E => tCall (spTurned K (TT K)) [] E (tCons (tVar 0) tNil)) ["none"] vals⟩, ⟨lamF (cxOf (L2N.CX P w) P w K mg base ["jar", "lam", "none", "many", "wide", "far", "near", "edge", "bent", "at", "call", "due", "i"] "_law_faults_told" (defScope s__law_faults_told) (He.fAd K ("_law_faults_told", none)) (.ref (He.codeOf K ("_law_faults_told", none))) A outer s H E).nox (lamP (eF 3)) (lamS (eF 3)), lamB (eF 3), [2], 8, fun vals => spLam (fun E => tCallK0 1 (spReadShape K (TT K)) (fun zs => zs) E (tCons (tVar 0) tNil)) ["none"] vals⟩, ⟨lamF (cxOf (L2N.CX P w) P w K mg base ["jar", "lam", "none", "many", "wide", "far", "near", "edge", "bent", "at", "call", "due", "i"] "_law_faults_told" (defScope s__law_faults_told) (He.fAd K ("_law_faults_told", none)) (.ref (He.codeOf K ("_law_faults_told", none))) A outer s H E).nox (lamP (eF 4)) (lamS (eF 4)), lamB (eF 4), [8], 8, fun vals => spLam (fun E => tCall (spCore K (TT K)) [] E (tCons (tVar 0) tNil)) ["bent"] vals⟩, ⟨lamF (cxOf (L2N.CX P w) P w K mg base ["jar", "lam", "none", "many", "wide", "far", "near", "edge", "bent", "at", "call", "due", "i"] "_law_faults_told" (defScope s__law_faults_told) (He.fAd K ("_law_faults_told", none)) (.ref (He.codeOf K ("_law_faults_told", none))) A outer s H E).nox (lamP (eF 5)) (lamS (eF 5)), lamB (eF 5), [8, 5], 8, fun vals => spLam (fun E => tCall (spFalling K (TT K)) [] E (tCons (tVar 0) (tCons (tVar 1) tNil))) ["bent", "far"] vals⟩, ⟨lamF (cxOf (L2N.CX P w) P w K mg base ["jar", "lam", "none", "many", "wide", "far", "near", "edge", "bent", "at", "call", "due", "i"] "_law_faults_told" (defScope s__law_faults_told) (He.fAd K ("_law_faults_told", none)) (.ref (He.codeOf K ("_law_faults_told", none))) A outer s H E).nox (lamP (eF 6)) (lamS (eF 6)), lamB (eF 6), [2, 5], 8, fun vals => spLam (fun E => tCall (spGaps K (TT K)) [] E (tCons (tVar 0) (tCons (tVar 1) tNil))) ["none", "far"] vals⟩, ⟨lamF (cxOf (L2N.CX P w) P w K mg base ["jar", "lam", "none", "many", "wide", "far", "near", "edge", "bent", "at", "call", "due", "i"] "_law_faults_told" (defScope s__law_faults_told) (He.fAd K ("_law_faults_told", none)) (.ref (He.codeOf K ("_law_faults_told", none))) A outer s H E).nox (lamP (eF 7)) (lamS (eF 7)), lamB (eF 7), [1, 5], 8, fun vals => spLam (fun E => tCall (spFalling K (TT K)) [] E (tCons (tVar 0) (tCons (tVar 1) tNil))) ["lam", "far"] vals⟩, ⟨lamF (cxOf (L2N.CX P w) P w K mg base ["jar", "lam", "none", "many", "wide", "far", "near", "edge", "bent", "at", "call", "due", "i"] "_law_faults_told" (defScope s__law_faults_told) (He.fAd K ("_law_faults_told", none)) (.ref (He.codeOf K ("_law_faults_told", none))) A outer s H E).nox (lamP (eF 8)) (lamS (eF 8)), lamB (eF 8), [1, 5], 8, fun vals => spLam (fun E => tCall (spGaps K (TT K)) [] E (tCons (tVar 0) (tCons (tVar 1) tNil))) ["lam", "far"] vals⟩, ⟨lamF (cxOf (L2N.CX P w) P w K mg base ["jar", "lam", "none", "many", "wide", "far", "near", "edge", "bent", "at", "call", "due", "i"] "_law_faults_told" (defScope s__law_faults_told) (He.fAd K ("_law_faults_told", none)) (.ref (He.codeOf K ("_law_faults_told", none))) A outer s H E).nox (lamP (eF 9)) (lamS (eF 9)), lamB (eF 9), [4], 8, fun vals => spLam (fun E => tCall (spReadShape K (TT K)) [] E (tCons (tVar 0) tNil)) ["wide"] vals⟩, ⟨lamF (cxOf (L2N.CX P w) P w K mg base ["jar", "lam", "none", "many", "wide", "far", "near", "edge", "bent", "at", "call", "due", "i"] "_law_faults_told" (defScope s__law_faults_told) (He.fAd K ("_law_faults_told", none)) (.ref (He.codeOf K ("_law_faults_told", none))) A outer s H E).nox (lamP (eF 10)) (lamS (eF 10)), lamB (eF 10), [4], 8, fun vals => spLam (fun E => tCall (spCore K (TT K)) [] E (tCons (tCB (uList K) (tCons (tVar 0) tNil)) tNil)) ["wide"] vals⟩] (spRefuses P w K mg base (TT K) 8) (tCons (tVar 10) (tCons (tVar 11) tNil))))) (tRet (tC (.bl false))) tNext))
  (tSeq (tAsg (tCall (spPick K) [] E0 (tCons (tVar 0) (tCons (tLst (tCons (tTup (tCons (tC (.int 30)) tNil)) (tCons (tTup (tCons (tC (.int 15)) (tCons (tC (.int 15)) tNil))) (tCons (tCB (uTup K) (tCons (tLc (iRng1 (tCons (tC (.int 30)) tNil)) (gName 12) tYes (tC (.int 1)) [12]) tNil)) (tCons (tTup (tCons (tC (.int 10)) (tCons (tC (.int 9)) (tCons (tC (.int 8)) (tCons (tC (.int 3)) tNil))))) tNil))))) tNil))) (gName 6))
  (tSeq (tAsg (tCall (spPick K) [] E0 (tCons (tVar 0) (tCons (tLst (tCons (tC (.int 60)) (tCons (tOp qSub (tC (.int 0)) (tC (.int 60))) tNil))) tNil))) (gName 7))
  (tRet (tAndV (tCall (spLikeN K (TT K) 4) [] E0 (tCons (tCall (spReadShape K (TT K)) [] E0 (tCons (tCB (uList K) (tCons (tVar 6) tNil)) tNil)) (tCons (tVar 6) tNil))) (tCall (spLikeN K (TT K) 4) [] E0 (tCons (tCall (spFalling K (TT K)) [] E0 (tCons (tVar 1) (tCons (tVar 7) tNil))) (tCons (tNotV (tCall (spIsGap K (TT K)) [] E0 (tCons (tVar 1) (tCons (tVar 7) tNil)))) tNil))))))))))))), PSs.nox (pss_cons (ps_asg (pe_callU h__law_bent_stair hr (by decide) (by rfl) passN (pa_cons (pv 0) (pa_cons (pv 1) pa_nil))) (pg_tup rfl (pgs_cons (pg_name (i := 8) nd rfl (by first | exact Or.inl rfl | exact Or.inr rfl) (by first | exact Or.inl rfl | exact Or.inr rfl)) (pgs_cons (pg_name (i := 9) nd rfl (by first | exact Or.inl rfl | exact Or.inr rfl) (by first | exact Or.inl rfl | exact Or.inr rfl)) pgs_nil))))
      (pss_cons (ps_set (i := 2) nd rfl (by first | exact Or.inl rfl | exact Or.inr rfl) (pe_callU h__law_pick hr (by decide) (by rfl) passN (pa_cons (pv 0) (pa_cons (pe_lst (pa_cons pe_non (pa_cons pe_int (pa_cons pe_bl (pa_cons (pe_disp (pps_cons pe_int pe_int pps_nil) rfl rfl (by decide) (by decide)) (pa_cons pe_dnewK (pa_cons pe_str (pa_cons pe_str (pa_cons pe_str pa_nil))))))))) pa_nil))))
      (pss_cons (ps_set (i := 3) nd rfl (by first | exact Or.inl rfl | exact Or.inr rfl) (pe_callU h__law_reach hr (by decide) (by rfl) passN (pa_cons (pv 0) (pa_cons pe_int (pa_cons pe_int pa_nil)))))
      (pss_cons (ps_set (i := 4) nd rfl (by first | exact Or.inl rfl | exact Or.inr rfl) (pe_callU h__law_pick hr (by decide) (by rfl) passN (pa_cons (pv 0) (pa_cons (pe_lst (pa_cons (pe_tup (pa_cons (pv 3) pa_nil)) (pa_cons (pe_tup (pa_cons (pe_op op_sub (pv 3) pe_int) (pa_cons pe_int pa_nil))) (pa_cons (pe_callTy U.cr_tuple (by rfl) G.b_tuple (by first | rfl | kernel_rfl) (pa_cons (pe_lc (own := [("i", 12)]) rfl nd (pi_range1 (by rfl) G.b_range (pa_cons (pv 3) pa_nil)) (blkOk_by (own := [("i", 12)]) (by first | decide +kernel | rfl)) (fun _ _ _ _ _ => (pg_name (i := 12) nd rfl (by first | exact Or.inl rfl | exact Or.inr rfl) (by first | exact Or.inl rfl | exact Or.inr rfl))) (fun _ _ _ _ _ => pts_nil) (fun _ _ _ _ _ => pe_int)) pa_nil)) pa_nil)))) pa_nil))))
      (pss_cons (ps_set (i := 5) nd rfl (by first | exact Or.inl rfl | exact Or.inr rfl) (pe_callU h__law_pick hr (by decide) (by rfl) passN (pa_cons (pv 0) (pa_cons (pe_lst (pa_cons pe_int (pa_cons (pe_op op_sub pe_int pe_int) (pa_cons pe_int (pa_cons (pe_op op_sub pe_int pe_int) pa_nil))))) pa_nil))))
      (pss_cons (ps_for PassesOwn.never rfl (pi_seq (pe_lst (pa_cons (pe_tup (pa_cons (pe_lam (T := TT K) TB rfl hm hu rfl hfF0) (pa_cons (pe_lst (pa_cons pe_str (pa_cons (pv 9) pa_nil))) pa_nil))) (pa_cons (pe_tup (pa_cons (pe_lam (T := TT K) TB rfl hm hu rfl hfF1) (pa_cons (pe_lst (pa_cons pe_str (pa_cons (pv 9) pa_nil))) pa_nil))) (pa_cons (pe_tup (pa_cons (pe_lam (T := TT K) TB rfl hm hu rfl hfF2) (pa_cons (pe_lst (pa_cons pe_str (pa_cons pe_int pa_nil))) pa_nil))) (pa_cons (pe_tup (pa_cons (pe_lam (T := TT K) TB rfl hm hu rfl hfF3) (pa_cons (pe_lst (pa_cons pe_str (pa_cons pe_int pa_nil))) pa_nil))) (pa_cons (pe_tup (pa_cons (pe_lam (T := TT K) TB rfl hm hu rfl hfF4) (pa_cons (pe_lst (pa_cons pe_str (pa_cons (pv 9) pa_nil))) pa_nil))) (pa_cons (pe_tup (pa_cons (pe_lam (T := TT K) TB rfl hm hu rfl hfF5) (pa_cons (pe_lst (pa_cons pe_str (pa_cons (pv 9) pa_nil))) pa_nil))) (pa_cons (pe_tup (pa_cons (pe_lam (T := TT K) TB rfl hm hu rfl hfF6) (pa_cons (pe_lst (pa_cons pe_str (pa_cons pe_int pa_nil))) pa_nil))) (pa_cons (pe_tup (pa_cons (pe_lam (T := TT K) TB rfl hm hu rfl hfF7) (pa_cons (pe_lst (pa_cons pe_str (pa_cons pe_str (pa_cons (pe_callB U.cr_abs (by rfl) G.b_abs (by first | rfl | kernel_rfl) (pa_cons (pv 5) pa_nil)) pa_nil)))) pa_nil))) (pa_cons (pe_tup (pa_cons (pe_lam (T := TT K) TB rfl hm hu rfl hfF8) (pa_cons (pe_lst (pa_cons pe_str (pa_cons pe_str (pa_cons (pe_callB U.cr_abs (by rfl) G.b_abs (by first | rfl | kernel_rfl) (pa_cons (pv 5) pa_nil)) pa_nil)))) pa_nil))) (pa_cons (pe_tup (pa_cons (pe_lam (T := TT K) TB rfl hm hu rfl hfF9) (pa_cons (pe_lst (pa_cons pe_str (pa_cons pe_str (pa_cons (pv 3) pa_nil)))) pa_nil))) (pa_cons (pe_tup (pa_cons (pe_lam (T := TT K) TB rfl hm hu rfl hfF10) (pa_cons (pe_lst (pa_cons pe_str (pa_cons pe_str (pa_cons (pv 3) pa_nil)))) pa_nil))) pa_nil))))))))))))) (pg_tup rfl (pgs_cons (pg_name (i := 10) nd rfl (by first | exact Or.inl rfl | exact Or.inr rfl) (by first | exact Or.inl rfl | exact Or.inr rfl)) (pgs_cons (pg_name (i := 11) nd rfl (by first | exact Or.inl rfl | exact Or.inr rfl) (by first | exact Or.inl rfl | exact Or.inr rfl)) pgs_nil))) (pss_one (ps_if (pt_not (pt_val (pe_callPinU (LS := [⟨lamF (cxOf (L2N.CX P w) P w K mg base ["jar", "lam", "none", "many", "wide", "far", "near", "edge", "bent", "at", "call", "due", "i"] "_law_faults_told" (defScope s__law_faults_told) (He.fAd K ("_law_faults_told", none)) (.ref (He.codeOf K ("_law_faults_told", none))) A outer s H E).nox (lamP (eF 0)) (lamS (eF 0)), lamB (eF 0), [8], 8, fun vals => spLam (fun E => tCall (spReadShape K (TT K)) [] E (tCons (tVar 0) tNil)) ["bent"] vals⟩, ⟨lamF (cxOf (L2N.CX P w) P w K mg base ["jar", "lam", "none", "many", "wide", "far", "near", "edge", "bent", "at", "call", "due", "i"] "_law_faults_told" (defScope s__law_faults_told) (He.fAd K ("_law_faults_told", none)) (.ref (He.codeOf K ("_law_faults_told", none))) A outer s H E).nox (lamP (eF 1)) (lamS (eF 1)), lamB (eF 1), [8], 8, fun vals => spLam (fun E => tCall (spHooksP K (TT K)) [] E (tCons (tVar 0) tNil)) ["bent"] vals⟩, ⟨lamF (cxOf (L2N.CX P w) P w K mg base ["jar", "lam", "none", "many", "wide", "far", "near", "edge", "bent", "at", "call", "due", "i"] "_law_faults_told" (defScope s__law_faults_told) (He.fAd K ("_law_faults_told", none)) (.ref (He.codeOf K ("_law_faults_told", none))) A outer s H E).nox (lamP (eF 2)) (lamS (eF 2)), lamB (eF 2), [2], 8, fun vals => spLam (fun E => tCall (spTurned K (TT K)) [] E (tCons (tVar 0) tNil)) ["none"] vals⟩, ⟨lamF (cxOf (L2N.CX P w) P w K mg base ["jar", "lam", "none", "many", "wide", "far", "near", "edge", "bent", "at", "call", "due", "i"] "_law_faults_told" (defScope s__law_faults_told) (He.fAd K ("_law_faults_told", none)) (.ref (He.codeOf K ("_law_faults_told", none))) A outer s H E).nox (lamP (eF 3)) (lamS (eF 3)), lamB (eF 3), [2], 8, fun vals => spLam (fun E => tCallK0 1 (spReadShape K (TT K)) (fun zs => zs) E (tCons (tVar 0) tNil)) ["none"] vals⟩, ⟨lamF (cxOf (L2N.CX P w) P w K mg base ["jar", "lam", "none", "many", "wide", "far", "near", "edge", "bent", "at", "call", "due", "i"] "_law_faults_told" (defScope s__law_faults_told) (He.fAd K ("_law_faults_told", none)) (.ref (He.codeOf K ("_law_faults_told", none))) A outer s H E).nox (lamP (eF 4)) (lamS (eF 4)), lamB (eF 4), [8], 8, fun vals => spLam (fun E => tCall (spCore K (TT K)) [] E (tCons (tVar 0) tNil)) ["bent"] vals⟩, ⟨lamF (cxOf (L2N.CX P w) P w K mg base ["jar", "lam", "none", "many", "wide", "far", "near", "edge", "bent", "at", "call", "due", "i"] "_law_faults_told" (defScope s__law_faults_told) (He.fAd K ("_law_faults_told", none)) (.ref (He.codeOf K ("_law_faults_told", none))) A outer s H E).nox (lamP (eF 5)) (lamS (eF 5)), lamB (eF 5), [8, 5], 8, fun vals => spLam (fun E => tCall (spFalling K (TT K)) [] E (tCons (tVar 0) (tCons (tVar 1) tNil))) ["bent", "far"] vals⟩, ⟨lamF (cxOf (L2N.CX P w) P w K mg base ["jar", "lam", "none", "many", "wide", "far", "near", "edge", "bent", "at", "call", "due", "i"] "_law_faults_told" (defScope s__law_faults_told) (He.fAd K ("_law_faults_told", none)) (.ref (He.codeOf K ("_law_faults_told", none))) A outer s H E).nox (lamP (eF 6)) (lamS (eF 6)), lamB (eF 6), [2, 5], 8, fun vals => spLam (fun E => tCall (spGaps K (TT K)) [] E (tCons (tVar 0) (tCons (tVar 1) tNil))) ["none", "far"] vals⟩, ⟨lamF (cxOf (L2N.CX P w) P w K mg base ["jar", "lam", "none", "many", "wide", "far", "near", "edge", "bent", "at", "call", "due", "i"] "_law_faults_told" (defScope s__law_faults_told) (He.fAd K ("_law_faults_told", none)) (.ref (He.codeOf K ("_law_faults_told", none))) A outer s H E).nox (lamP (eF 7)) (lamS (eF 7)), lamB (eF 7), [1, 5], 8, fun vals => spLam (fun E => tCall (spFalling K (TT K)) [] E (tCons (tVar 0) (tCons (tVar 1) tNil))) ["lam", "far"] vals⟩, ⟨lamF (cxOf (L2N.CX P w) P w K mg base ["jar", "lam", "none", "many", "wide", "far", "near", "edge", "bent", "at", "call", "due", "i"] "_law_faults_told" (defScope s__law_faults_told) (He.fAd K ("_law_faults_told", none)) (.ref (He.codeOf K ("_law_faults_told", none))) A outer s H E).nox (lamP (eF 8)) (lamS (eF 8)), lamB (eF 8), [1, 5], 8, fun vals => spLam (fun E => tCall (spGaps K (TT K)) [] E (tCons (tVar 0) (tCons (tVar 1) tNil))) ["lam", "far"] vals⟩, ⟨lamF (cxOf (L2N.CX P w) P w K mg base ["jar", "lam", "none", "many", "wide", "far", "near", "edge", "bent", "at", "call", "due", "i"] "_law_faults_told" (defScope s__law_faults_told) (He.fAd K ("_law_faults_told", none)) (.ref (He.codeOf K ("_law_faults_told", none))) A outer s H E).nox (lamP (eF 9)) (lamS (eF 9)), lamB (eF 9), [4], 8, fun vals => spLam (fun E => tCall (spReadShape K (TT K)) [] E (tCons (tVar 0) tNil)) ["wide"] vals⟩, ⟨lamF (cxOf (L2N.CX P w) P w K mg base ["jar", "lam", "none", "many", "wide", "far", "near", "edge", "bent", "at", "call", "due", "i"] "_law_faults_told" (defScope s__law_faults_told) (He.fAd K ("_law_faults_told", none)) (.ref (He.codeOf K ("_law_faults_told", none))) A outer s H E).nox (lamP (eF 10)) (lamS (eF 10)), lamB (eF 10), [4], 8, fun vals => spLam (fun E => tCall (spCore K (TT K)) [] E (tCons (tCB (uList K) (tCons (tVar 0) tNil)) tNil)) ["wide"] vals⟩]) h__law_refuses hr (by decide) (fun _ => rfl) (fun L hl => ?lam) (by rfl) (pa_cons (pv 10) (pa_cons (pv 11) pa_nil))))) (pss_one (ps_ret pe_bl)) pss_nil)))
      (pss_cons (ps_set (i := 6) nd rfl (by first | exact Or.inl rfl | exact Or.inr rfl) (pe_callU h__law_pick hr (by decide) (by rfl) passN (pa_cons (pv 0) (pa_cons (pe_lst (pa_cons (pe_tup (pa_cons pe_int pa_nil)) (pa_cons (pe_tup (pa_cons pe_int (pa_cons pe_int pa_nil))) (pa_cons (pe_callTy U.cr_tuple (by rfl) G.b_tuple (by first | rfl | kernel_rfl) (pa_cons (pe_lc (own := [("i", 12)]) rfl nd (pi_range1 (by rfl) G.b_range (pa_cons pe_int pa_nil)) (blkOk_by (own := [("i", 12)]) (by first | decide +kernel | rfl)) (fun _ _ _ _ _ => (pg_name (i := 12) nd rfl (by first | exact Or.inl rfl | exact Or.inr rfl) (by first | exact Or.inl rfl | exact Or.inr rfl))) (fun _ _ _ _ _ => pts_nil) (fun _ _ _ _ _ => pe_int)) pa_nil)) (pa_cons (pe_tup (pa_cons pe_int (pa_cons pe_int (pa_cons pe_int (pa_cons pe_int pa_nil))))) pa_nil))))) pa_nil))))
      (pss_cons (ps_set (i := 7) nd rfl (by first | exact Or.inl rfl | exact Or.inr rfl) (pe_callU h__law_pick hr (by decide) (by rfl) passN (pa_cons (pv 0) (pa_cons (pe_lst (pa_cons pe_int (pa_cons (pe_op op_sub pe_int pe_int) pa_nil))) pa_nil))))
      (pss_one (ps_ret (pe_and (pe_callU h__law_like hr (by decide) (by rfl) passN (pa_cons (pe_callU h_read_shape hr (by decide) (by rfl) passN (pa_cons (pe_callTy U.cr_list (by rfl) G.b_list (by first | rfl | kernel_rfl) (pa_cons (pv 6) pa_nil)) pa_nil)) (pa_cons (pv 6) pa_nil))) (pe_one (pe_callU h__law_like hr (by decide) (by rfl) passN (pa_cons (pe_callU h_falling hr (by decide) (by rfl) passN (pa_cons (pv 1) (pa_cons (pv 7) pa_nil))) (pa_cons (pe_not (pe_callU h__law_is_gap hr (by decide) (by rfl) passN (pa_cons (pv 1) (pa_cons (pv 7) pa_nil)))) pa_nil))))))))))))))), ?_⟩
    case lam =>
      simp only [List.mem_cons, List.not_mem_nil, or_false] at hl
      rcases hl with rfl | rfl | rfl | rfl | rfl | rfl | rfl | rfl | rfl | rfl | rfl
      · refine lamOk_of (k := 7) nsF0 hfF0 (by decide +kernel) rfl (fun _ _ _ _ => rfl) (fun c f A2 outer2 s2 H2 E2 hr => ?_)
        have tk := L2N.takes_of (X := ncx (L2N.CX P w) P w K mg base ["bent"] (lamF (cxOf (L2N.CX P w) P w K mg base ["jar", "lam", "none", "many", "wide", "far", "near", "edge", "bent", "at", "call", "due", "i"] "_law_faults_told" (defScope s__law_faults_told) (He.fAd K ("_law_faults_told", none)) (.ref (He.codeOf K ("_law_faults_told", none))) A outer s H E).nox (lamP (eF 0)) (lamS (eF 0)) c) f A2 outer2 s2 H2 E2) (E := E2) rfl rfl rfl rfl
        exact pe_callU h_read_shape hr (by decide) (by rfl) (L2N.passes_call tk fun _ _ _ _ h => h) (pa_cons (pv 0) pa_nil)
      · refine lamOk_of (k := 7) nsF1 hfF1 (by decide +kernel) rfl (fun _ _ _ _ => rfl) (fun c f A2 outer2 s2 H2 E2 hr => ?_)
        have tk := L2N.takes_of (X := ncx (L2N.CX P w) P w K mg base ["bent"] (lamF (cxOf (L2N.CX P w) P w K mg base ["jar", "lam", "none", "many", "wide", "far", "near", "edge", "bent", "at", "call", "due", "i"] "_law_faults_told" (defScope s__law_faults_told) (He.fAd K ("_law_faults_told", none)) (.ref (He.codeOf K ("_law_faults_told", none))) A outer s H E).nox (lamP (eF 1)) (lamS (eF 1)) c) f A2 outer2 s2 H2 E2) (E := E2) rfl rfl rfl rfl
        exact pe_callU h_hooks hr (by decide) (by rfl) (L2N.passes_call tk fun _ _ _ _ h => h) (pa_cons (pv 0) pa_nil)
      · refine lamOk_of (k := 7) nsF2 hfF2 (by decide +kernel) rfl (fun _ _ _ _ => rfl) (fun c f A2 outer2 s2 H2 E2 hr => ?_)
        have tk := L2N.takes_of (X := ncx (L2N.CX P w) P w K mg base ["none"] (lamF (cxOf (L2N.CX P w) P w K mg base ["jar", "lam", "none", "many", "wide", "far", "near", "edge", "bent", "at", "call", "due", "i"] "_law_faults_told" (defScope s__law_faults_told) (He.fAd K ("_law_faults_told", none)) (.ref (He.codeOf K ("_law_faults_told", none))) A outer s H E).nox (lamP (eF 2)) (lamS (eF 2)) c) f A2 outer2 s2 H2 E2) (E := E2) rfl rfl rfl rfl
        exact pe_callU h_turned hr (by decide) (by rfl) (L2N.passes_call tk fun _ _ _ _ h => h) (pa_cons (pv 0) pa_nil)
      · refine lamOk_of (k := 7) nsF3 hfF3 (by decide +kernel) rfl (fun _ _ _ _ => rfl) (fun c f A2 outer2 s2 H2 E2 hr => ?_)
        have tk := L2N.takes_of (X := ncx (L2N.CX P w) P w K mg base ["none"] (lamF (cxOf (L2N.CX P w) P w K mg base ["jar", "lam", "none", "many", "wide", "far", "near", "edge", "bent", "at", "call", "due", "i"] "_law_faults_told" (defScope s__law_faults_told) (He.fAd K ("_law_faults_told", none)) (.ref (He.codeOf K ("_law_faults_told", none))) A outer s H E).nox (lamP (eF 3)) (lamS (eF 3)) c) f A2 outer2 s2 H2 E2) (E := E2) rfl rfl rfl rfl
        exact pe_callKU0 (ks := ["thing"]) k_read_shape_thing hr (by decide) (by rfl) (L2N.passes_call tk fun _ _ _ _ h => h) (pk_cons (pv 0) pk_nil)
      · refine lamOk_of (k := 7) nsF4 hfF4 (by decide +kernel) rfl (fun _ _ _ _ => rfl) (fun c f A2 outer2 s2 H2 E2 hr => ?_)
        have tk := L2N.takes_of (X := ncx (L2N.CX P w) P w K mg base ["bent"] (lamF (cxOf (L2N.CX P w) P w K mg base ["jar", "lam", "none", "many", "wide", "far", "near", "edge", "bent", "at", "call", "due", "i"] "_law_faults_told" (defScope s__law_faults_told) (He.fAd K ("_law_faults_told", none)) (.ref (He.codeOf K ("_law_faults_told", none))) A outer s H E).nox (lamP (eF 4)) (lamS (eF 4)) c) f A2 outer2 s2 H2 E2) (E := E2) rfl rfl rfl rfl
        exact pe_callU h_core hr (by decide) (by rfl) (L2N.passes_call tk fun _ _ _ _ h => h) (pa_cons (pv 0) pa_nil)
      · refine lamOk_of (k := 7) nsF5 hfF5 (by decide +kernel) rfl (fun _ _ _ _ => rfl) (fun c f A2 outer2 s2 H2 E2 hr => ?_)
        have tk := L2N.takes_of (X := ncx (L2N.CX P w) P w K mg base ["bent", "far"] (lamF (cxOf (L2N.CX P w) P w K mg base ["jar", "lam", "none", "many", "wide", "far", "near", "edge", "bent", "at", "call", "due", "i"] "_law_faults_told" (defScope s__law_faults_told) (He.fAd K ("_law_faults_told", none)) (.ref (He.codeOf K ("_law_faults_told", none))) A outer s H E).nox (lamP (eF 5)) (lamS (eF 5)) c) f A2 outer2 s2 H2 E2) (E := E2) rfl rfl rfl rfl
        exact pe_callU h_falling hr (by decide) (by rfl) (L2N.passes_call tk fun _ _ _ _ h => h) (pa_cons (pv 0) (pa_cons (pv 1) pa_nil))
      · refine lamOk_of (k := 7) nsF6 hfF6 (by decide +kernel) rfl (fun _ _ _ _ => rfl) (fun c f A2 outer2 s2 H2 E2 hr => ?_)
        have tk := L2N.takes_of (X := ncx (L2N.CX P w) P w K mg base ["none", "far"] (lamF (cxOf (L2N.CX P w) P w K mg base ["jar", "lam", "none", "many", "wide", "far", "near", "edge", "bent", "at", "call", "due", "i"] "_law_faults_told" (defScope s__law_faults_told) (He.fAd K ("_law_faults_told", none)) (.ref (He.codeOf K ("_law_faults_told", none))) A outer s H E).nox (lamP (eF 6)) (lamS (eF 6)) c) f A2 outer2 s2 H2 E2) (E := E2) rfl rfl rfl rfl
        exact pe_callU h_gaps hr (by decide) (by rfl) (L2N.passes_call tk fun _ _ _ _ h => h) (pa_cons (pv 0) (pa_cons (pv 1) pa_nil))
      · refine lamOk_of (k := 7) nsF7 hfF7 (by decide +kernel) rfl (fun _ _ _ _ => rfl) (fun c f A2 outer2 s2 H2 E2 hr => ?_)
        have tk := L2N.takes_of (X := ncx (L2N.CX P w) P w K mg base ["lam", "far"] (lamF (cxOf (L2N.CX P w) P w K mg base ["jar", "lam", "none", "many", "wide", "far", "near", "edge", "bent", "at", "call", "due", "i"] "_law_faults_told" (defScope s__law_faults_told) (He.fAd K ("_law_faults_told", none)) (.ref (He.codeOf K ("_law_faults_told", none))) A outer s H E).nox (lamP (eF 7)) (lamS (eF 7)) c) f A2 outer2 s2 H2 E2) (E := E2) rfl rfl rfl rfl
        exact pe_callU h_falling hr (by decide) (by rfl) (L2N.passes_call tk fun _ _ _ _ h => h) (pa_cons (pv 0) (pa_cons (pv 1) pa_nil))
      · refine lamOk_of (k := 7) nsF8 hfF8 (by decide +kernel) rfl (fun _ _ _ _ => rfl) (fun c f A2 outer2 s2 H2 E2 hr => ?_)
        have tk := L2N.takes_of (X := ncx (L2N.CX P w) P w K mg base ["lam", "far"] (lamF (cxOf (L2N.CX P w) P w K mg base ["jar", "lam", "none", "many", "wide", "far", "near", "edge", "bent", "at", "call", "due", "i"] "_law_faults_told" (defScope s__law_faults_told) (He.fAd K ("_law_faults_told", none)) (.ref (He.codeOf K ("_law_faults_told", none))) A outer s H E).nox (lamP (eF 8)) (lamS (eF 8)) c) f A2 outer2 s2 H2 E2) (E := E2) rfl rfl rfl rfl
        exact pe_callU h_gaps hr (by decide) (by rfl) (L2N.passes_call tk fun _ _ _ _ h => h) (pa_cons (pv 0) (pa_cons (pv 1) pa_nil))
      · refine lamOk_of (k := 7) nsF9 hfF9 (by decide +kernel) rfl (fun _ _ _ _ => rfl) (fun c f A2 outer2 s2 H2 E2 hr => ?_)
        have tk := L2N.takes_of (X := ncx (L2N.CX P w) P w K mg base ["wide"] (lamF (cxOf (L2N.CX P w) P w K mg base ["jar", "lam", "none", "many", "wide", "far", "near", "edge", "bent", "at", "call", "due", "i"] "_law_faults_told" (defScope s__law_faults_told) (He.fAd K ("_law_faults_told", none)) (.ref (He.codeOf K ("_law_faults_told", none))) A outer s H E).nox (lamP (eF 9)) (lamS (eF 9)) c) f A2 outer2 s2 H2 E2) (E := E2) rfl rfl rfl rfl
        exact pe_callU h_read_shape hr (by decide) (by rfl) (L2N.passes_call tk fun _ _ _ _ h => h) (pa_cons (pv 0) pa_nil)
      · refine lamOk_of (k := 7) nsF10 hfF10 (by decide +kernel) rfl (fun _ _ _ _ => rfl) (fun c f A2 outer2 s2 H2 E2 hr => ?_)
        have tk := L2N.takes_of (X := ncx (L2N.CX P w) P w K mg base ["wide"] (lamF (cxOf (L2N.CX P w) P w K mg base ["jar", "lam", "none", "many", "wide", "far", "near", "edge", "bent", "at", "call", "due", "i"] "_law_faults_told" (defScope s__law_faults_told) (He.fAd K ("_law_faults_told", none)) (.ref (He.codeOf K ("_law_faults_told", none))) A outer s H E).nox (lamP (eF 10)) (lamS (eF 10)) c) f A2 outer2 s2 H2 E2) (E := E2) rfl rfl rfl rfl
        exact pe_callU h_core hr (by decide) (by rfl) (L2N.passes_call tk fun _ _ _ _ h => h) (pa_cons (pe_callTy U.cr_list (by rfl) G.b_list (by first | rfl | kernel_rfl) (pa_cons (pv 0) pa_nil)) pa_nil)
    obtain ⟨J, a, lam, rfl, htab, hj, ha, hp, hz, q⟩ := h
    have hl := len_le_sum hp.pos
    walk_at "go"
    refine ⟨J, a, lam, rfl, hj, ha, hp, by omega, fun v H1 g1 hB1 => ?_⟩
    obtain ⟨p1, v1, xs1, at1, rfl, hs1, hr1, hw1⟩ := hB1
    refine ⟨p1, _, rfl, hs1, rfl, _, _, rfl, _, _, rfl, rfl, ?_⟩
    walk_at "go"
    refine w_disp1 fun d1 H2 n2 g2 h2 => ?_
    walk_at "go"
    refine w_dnew fun d2 H3 n3 g3 h3 => ?_
    walk_at "go"
    intro m4 H4 n4 g4 h4
    walk_at "go"
    have g14 : Gr (TT K) H1 H4 := ((g2 _).trans (g3 _)).trans (g4 _)
    refine ⟨J, m4, _, rfl, g14.jar (g1.jar hj), sqA_of h4, by simp, by simp, fun vn hvn => ?_⟩
    have hN : ∃ xsn, RowsArg K H4 vn xsn ∧ wrongAt none xsn 0 = some 0 := by
      obtain ⟨k1, e1⟩ := h2
      obtain ⟨k2, e2⟩ := h3
      have e1' : H4 d1 = some (.dK k1) := ((g3 (TT K)).trans (g4 _)).keep _ _ e1 fun ps z => by cases z
      have e2' : H4 d2 = some (.dK k2) := (g4 (TT K)).keep _ _ e2 fun ps z => by cases z
      simp only [List.mem_cons, List.not_mem_nil, or_false] at hvn
      rcases hvn with rfl | rfl | rfl | rfl | rfl | rfl | rfl | rfl
      · exact ⟨_, .other .non, rfl⟩
      · exact ⟨_, .other (.int 5), rfl⟩
      · exact ⟨_, .other (.bl true), rfl⟩
      · exact ⟨_, .other (.dct e1'), rfl⟩
      · exact ⟨_, .other (.dct e2'), rfl⟩
      · exact ⟨_, txt_arg "" (by decide +kernel), by decide +kernel⟩
      · exact ⟨_, txt_arg "Bare" (by decide +kernel), by decide +kernel⟩
      · exact ⟨_, txt_arg "x 1" (by decide +kernel), by decide +kernel⟩
    obtain ⟨xsn, hrn, hwn⟩ := hN
    have g04 := g1.trans g14
    walk_at "go"
    refine ⟨J, 31, 45, rfl, g04.jar hj, by decide, by decide, fun many m0 m1 => ?_⟩
    walk_at "go"
    intro t5 H5 n5 g5 h5
    walk_at "go"
    intro t6 H6 n6 g6 h6
    walk_at "go"
    refine lc_R1 (T := TT K) (fun _ => true) (fun _ => .int 1) (by omega) (by omega) (fun _ => rfl) (fun k k0 k1 H7 g7 Yes No hy hn => ?_) (fun D7 H7 g7 nD7 h7 => ?_)
    · walk_at "go"
      exact hy rfl _ (Gr.refl _ _)
    walk_at "go"
    intro t8 H8 g8 h8
    walk_at "go"
    intro m9 H9 n9 g9 h9
    walk_at "go"
    have g49 : Gr (TT K) H4 H9 := ((((g5 _).trans (g6 _)).trans g7).trans (g8 _)).trans (g9 _)
    have g09 := g04.trans g49
    rw [List.filter_eq_self.mpr (fun _ _ => rfl)] at h8
    refine ⟨J, m9, _, rfl, g09.jar hj, sqA_of h9, by simp, by simp, fun x hx => ?_⟩
    have hW : ∃ (wd : Addr) (rows : List Int), x = .ref wd ∧ SqT K H9 wd (rows.map V.int) ∧ Part rows ∧ rows.sum = many := by
      simp only [List.mem_cons, List.not_mem_nil, or_false] at hx
      rcases hx with rfl | rfl | rfl
      · refine ⟨t5, [many], rfl, sqT_of ((g9 (TT K)).tup ((g8 (TT K)).tup (g7.tup ((g6 (TT K)).tup h5)))), ⟨List.pairwise_singleton .., fun x hx => by rw [List.mem_singleton.mp hx]; omega⟩, by simp⟩
      · refine ⟨t6, [many - 1, 1], rfl, sqT_of ((g9 (TT K)).tup ((g8 (TT K)).tup (g7.tup h6))), ⟨?_, fun x hx => ?_⟩, by simp⟩
        · refine List.pairwise_cons.mpr ⟨fun y hy => ?_, List.pairwise_singleton ..⟩
          rw [List.mem_singleton.mp hy]
          omega
        · rcases List.mem_cons.mp hx with z | z
          · omega
          · rw [List.mem_singleton.mp z]; omega
      · refine ⟨t8, (rgI 0 many).map fun _ => 1, rfl, (g9 (TT K)).sqT ?_, part_ones many, sum_ones many (by omega)⟩
        rw [List.map_map]
        exact h8
    obtain ⟨wd, rows, rfl, hwd, hwp, hws⟩ := hW
    have hwl := len_le_sum hwp.pos
    walk_at "go"
    intro mA HA nA gA hA
    walk_at "go"
    refine ⟨J, mA, _, rfl, (gA (TT K)).jar (g09.jar hj), sqA_of hA, by decide, by decide, fun x hx => ?_⟩
    have hfar : ∃ far : Int, x = .int far ∧ 60 < far.natAbs ∧ far.natAbs ≤ 1000 := by
      simp only [List.mem_cons, List.not_mem_nil, or_false] at hx
      rcases hx with rfl | rfl | rfl | rfl <;> exact ⟨_, rfl, by decide, by decide⟩
    obtain ⟨far, rfl, f0, f1⟩ := hfar
    have g9A : Gr (TT K) H9 HA := gA _
    have g4A := g49.trans g9A
    have g1A := g14.trans g4A
    have g0A := g04.trans g4A
    walk_at "go"
    refine w_lamV (g0A.tabs htab) (fun fa ca Hla gla nfa hfa hca => ?_) (fun _ => rfl)
    walk_at "go"
    intro la Hma nla gma hla
    walk_at "go"
    intro ta Hta nta gta hta
    have goa : Gr (TT K) H Hta := ((g0A.trans gla).trans (gma _)).trans (gta _)
    walk_at "go"
    refine w_lamV (goa.tabs htab) (fun fb cb Hlb glb nfb hfb hcb => ?_) (fun _ => rfl)
    walk_at "go"
    intro lb Hmb nlb gmb hlb
    walk_at "go"
    intro tb Htb ntb gtb htb
    have gob : Gr (TT K) H Htb := ((goa.trans glb).trans (gmb _)).trans (gtb _)
    walk_at "go"
    refine w_lamV (gob.tabs htab) (fun fc cc Hlc glc nfc hfc hcc => ?_) (fun _ => rfl)
    walk_at "go"
    intro lc Hmc nlc gmc hlc
    walk_at "go"
    intro tc Htc ntc gtc htc
    have goc : Gr (TT K) H Htc := ((gob.trans glc).trans (gmc _)).trans (gtc _)
    walk_at "go"
    refine w_lamV (goc.tabs htab) (fun fd cd Hld gld nfd hfd hcd => ?_) (fun _ => rfl)
    walk_at "go"
    intro ld Hmd nld gmd hld
    walk_at "go"
    intro td Htd ntd gtd htd
    have god : Gr (TT K) H Htd := ((goc.trans gld).trans (gmd _)).trans (gtd _)
    walk_at "go"
    refine w_lamV (god.tabs htab) (fun fe ce Hle gle nfe hfe hce => ?_) (fun _ => rfl)
    walk_at "go"
    intro le Hme nle gme hle
    walk_at "go"
    intro te Hte nte gte hte
    have goe : Gr (TT K) H Hte := ((god.trans gle).trans (gme _)).trans (gte _)
    walk_at "go"
    refine w_lamV (goe.tabs htab) (fun ff cf Hlf glf nff hff hcf => ?_) (fun _ => rfl)
    walk_at "go"
    intro lf Hmf nlf gmf hlf
    walk_at "go"
    intro tf Htf ntf gtf htf
    have gof : Gr (TT K) H Htf := ((goe.trans glf).trans (gmf _)).trans (gtf _)
    walk_at "go"
    refine w_lamV (gof.tabs htab) (fun fg cg Hlg glg nfg hfg hcg => ?_) (fun _ => rfl)
    walk_at "go"
    intro lg Hmg nlg gmg hlg
    walk_at "go"
    intro tg Htg ntg gtg htg
    have gog : Gr (TT K) H Htg := ((gof.trans glg).trans (gmg _)).trans (gtg _)
    walk_at "go"
    refine w_lamV (gog.tabs htab) (fun fh ch Hlh glh nfh hfh hch => ?_) (fun _ => rfl)
    walk_at "go"
    intro lh Hmh nlh gmh hlh
    walk_at "go"
    intro th Hth nth gth hth
    have goh : Gr (TT K) H Hth := ((gog.trans glh).trans (gmh _)).trans (gth _)
    walk_at "go"
    refine w_lamV (goh.tabs htab) (fun fi ci Hli gli nfi hfi hci => ?_) (fun _ => rfl)
    walk_at "go"
    intro li Hmi nli gmi hli
    walk_at "go"
    intro ti Hti nti gti hti
    have goi : Gr (TT K) H Hti := ((goh.trans gli).trans (gmi _)).trans (gti _)
    walk_at "go"
    refine w_lamV (goi.tabs htab) (fun fj cj Hlj glj nfj hfj hcj => ?_) (fun _ => rfl)
    walk_at "go"
    intro lj Hmj nlj gmj hlj
    walk_at "go"
    intro tj Htj ntj gtj htj
    have goj : Gr (TT K) H Htj := ((goi.trans glj).trans (gmj _)).trans (gtj _)
    walk_at "go"
    refine w_lamV (goj.tabs htab) (fun fk ck Hlk glk nfk hfk hck => ?_) (fun _ => rfl)
    walk_at "go"
    intro lk Hmk nlk gmk hlk
    walk_at "go"
    intro tk Htk ntk gtk htk
    have gok : Gr (TT K) H Htk := ((goj.trans glk).trans (gmk _)).trans (gtk _)
    walk_at "go"
    intro D HD nD gD hD
    have gOD : Gr (TT K) H HD := gok.trans (gD _)
    have gza : Gr (TT K) Hta HD := ((((((((((((((((((((((((((((((glb.trans (gmb (TT K))).trans (gtb (TT K))).trans glc).trans (gmc (TT K))).trans (gtc (TT K))).trans gld).trans (gmd (TT K))).trans (gtd (TT K))).trans gle).trans (gme (TT K))).trans (gte (TT K))).trans glf).trans (gmf (TT K))).trans (gtf (TT K))).trans glg).trans (gmg (TT K))).trans (gtg (TT K))).trans glh).trans (gmh (TT K))).trans (gth (TT K))).trans gli).trans (gmi (TT K))).trans (gti (TT K))).trans glj).trans (gmj (TT K))).trans (gtj (TT K))).trans glk).trans (gmk (TT K))).trans (gtk (TT K))).trans (gD (TT K)))
    have zta := gza.tup hta
    have zla := gza.lst ((gta (TT K)).lst hla)
    have gzb : Gr (TT K) Htb HD := (((((((((((((((((((((((((((glc.trans (gmc (TT K))).trans (gtc (TT K))).trans gld).trans (gmd (TT K))).trans (gtd (TT K))).trans gle).trans (gme (TT K))).trans (gte (TT K))).trans glf).trans (gmf (TT K))).trans (gtf (TT K))).trans glg).trans (gmg (TT K))).trans (gtg (TT K))).trans glh).trans (gmh (TT K))).trans (gth (TT K))).trans gli).trans (gmi (TT K))).trans (gti (TT K))).trans glj).trans (gmj (TT K))).trans (gtj (TT K))).trans glk).trans (gmk (TT K))).trans (gtk (TT K))).trans (gD (TT K)))
    have ztb := gzb.tup htb
    have zlb := gzb.lst ((gtb (TT K)).lst hlb)
    have gzc : Gr (TT K) Htc HD := ((((((((((((((((((((((((gld.trans (gmd (TT K))).trans (gtd (TT K))).trans gle).trans (gme (TT K))).trans (gte (TT K))).trans glf).trans (gmf (TT K))).trans (gtf (TT K))).trans glg).trans (gmg (TT K))).trans (gtg (TT K))).trans glh).trans (gmh (TT K))).trans (gth (TT K))).trans gli).trans (gmi (TT K))).trans (gti (TT K))).trans glj).trans (gmj (TT K))).trans (gtj (TT K))).trans glk).trans (gmk (TT K))).trans (gtk (TT K))).trans (gD (TT K)))
    have ztc := gzc.tup htc
    have zlc := gzc.lst ((gtc (TT K)).lst hlc)
    have gzd : Gr (TT K) Htd HD := (((((((((((((((((((((gle.trans (gme (TT K))).trans (gte (TT K))).trans glf).trans (gmf (TT K))).trans (gtf (TT K))).trans glg).trans (gmg (TT K))).trans (gtg (TT K))).trans glh).trans (gmh (TT K))).trans (gth (TT K))).trans gli).trans (gmi (TT K))).trans (gti (TT K))).trans glj).trans (gmj (TT K))).trans (gtj (TT K))).trans glk).trans (gmk (TT K))).trans (gtk (TT K))).trans (gD (TT K)))
    have ztd := gzd.tup htd
    have zld := gzd.lst ((gtd (TT K)).lst hld)
    have gze : Gr (TT K) Hte HD := ((((((((((((((((((glf.trans (gmf (TT K))).trans (gtf (TT K))).trans glg).trans (gmg (TT K))).trans (gtg (TT K))).trans glh).trans (gmh (TT K))).trans (gth (TT K))).trans gli).trans (gmi (TT K))).trans (gti (TT K))).trans glj).trans (gmj (TT K))).trans (gtj (TT K))).trans glk).trans (gmk (TT K))).trans (gtk (TT K))).trans (gD (TT K)))
    have zte := gze.tup hte
    have zle := gze.lst ((gte (TT K)).lst hle)
    have gzf : Gr (TT K) Htf HD := (((((((((((((((glg.trans (gmg (TT K))).trans (gtg (TT K))).trans glh).trans (gmh (TT K))).trans (gth (TT K))).trans gli).trans (gmi (TT K))).trans (gti (TT K))).trans glj).trans (gmj (TT K))).trans (gtj (TT K))).trans glk).trans (gmk (TT K))).trans (gtk (TT K))).trans (gD (TT K)))
    have ztf := gzf.tup htf
    have zlf := gzf.lst ((gtf (TT K)).lst hlf)
    have gzg : Gr (TT K) Htg HD := ((((((((((((glh.trans (gmh (TT K))).trans (gth (TT K))).trans gli).trans (gmi (TT K))).trans (gti (TT K))).trans glj).trans (gmj (TT K))).trans (gtj (TT K))).trans glk).trans (gmk (TT K))).trans (gtk (TT K))).trans (gD (TT K)))
    have ztg := gzg.tup htg
    have zlg := gzg.lst ((gtg (TT K)).lst hlg)
    have gzh : Gr (TT K) Hth HD := (((((((((gli.trans (gmi (TT K))).trans (gti (TT K))).trans glj).trans (gmj (TT K))).trans (gtj (TT K))).trans glk).trans (gmk (TT K))).trans (gtk (TT K))).trans (gD (TT K)))
    have zth := gzh.tup hth
    have zlh := gzh.lst ((gth (TT K)).lst hlh)
    have gzi : Gr (TT K) Hti HD := ((((((glj.trans (gmj (TT K))).trans (gtj (TT K))).trans glk).trans (gmk (TT K))).trans (gtk (TT K))).trans (gD (TT K)))
    have zti := gzi.tup hti
    have zli := gzi.lst ((gti (TT K)).lst hli)
    have gzj : Gr (TT K) Htj HD := (((glk.trans (gmk (TT K))).trans (gtk (TT K))).trans (gD (TT K)))
    have ztj := gzj.tup htj
    have zlj := gzj.lst ((gtj (TT K)).lst hlj)
    have gzk : Gr (TT K) Htk HD := (gD (TT K))
    have ztk := gzk.tup htk
    have zlk := gzk.lst ((gtk (TT K)).lst hlk)
    have gzA : Gr (TT K) HA HD := ((gla.trans (gma (TT K))).trans (gta (TT K))).trans gza
    refine fr_S (T := TT K) (sqA_of hD) (fun _ σ' H' => Gr (TT K) HD H' ∧ ∃ u6 u7 u10 u11 u12, σ' = [some (.ref J), some (.ref a), some vn, some (.int many), some (.ref wd), some (.int far), u6, u7, some v1, some (.int at1), u10, u11, u12]) ⟨Gr.refl _ _, _, _, _, _, _, rfl⟩ (fun i σ' H' p => p.1) (fun i x σ' H' hx p => ?_) (fun σ' H' p => ?_)
    · obtain ⟨gp, u6, u7, u10, u11, u12, rfl⟩ := p
      rcases i with _ | _ | _ | _ | _ | _ | _ | _ | _ | _ | _ | i
      · cases hx
        have ht1 : SqT K H' ta [.ref fa, .ref la] := sqT_of (gp.tup zta)
        refine ⟨ta, _, rfl, ht1, rfl, _, _, rfl, _, _, rfl, rfl, ?_⟩
        walk_at "go"
        refine w_pin (w_cons (w_var rfl (w_cons (w_var rfl (w_nil fun H8 pr lams => ?_)))))
        have hf1 := gp.keep _ _ (gza.keep _ _ ((gta (TT K)).keep _ _ ((gma (TT K)).keep _ _ hfa lamO_tbl) lamO_tbl) lamO_tbl) lamO_tbl
        have hc1 := gp.keep _ _ (gza.keep _ _ ((gta (TT K)).keep _ _ ((gma (TT K)).keep _ _ hca codeO_tbl) codeO_tbl) codeO_tbl) codeO_tbl
        have TH : Thunk P w K mg base 8 H8 fa (spLam (fun E => tCall (spReadShape K (TT K)) [] E (tCons (tVar 0) tNil)) ["bent"] [some v1]) := lams _ (List.mem_cons_self ..) fa ca hf1 hc1
        have hl8 := pinR_to pr _ _ (gp.lst zla)
        have g0p : Gr (TT K) H H' := gOD.trans gp
        have hr8 := (Gr.rowsArg g1A hr1)
        have hr9 := (Gr.rowsArg g4A hrn)
        refine ⟨fa, la, [.str "BadShape", .int at1], [.str "BadShape", .int at1], _, rfl, ends_bad (i := at1) TH (fun cs mx Q0 E0 hb0 => ?_), hl8, .cons (.str _) (.cons (.int _) .nil), Nat.le_of_ble_eq_true rfl, ?_, ?_, ?_⟩
        · refine w_call0 (w_cons (w_var rfl (w_nil ?_)))
          exact ⟨v1, xs1, rfl, RowsArg.to (RowsArg.to (Gr.rowsArg (gzA.trans gp) hr8) fun b o e _ => pinR_to pr b o e) mx, fun w e => (by rw [hw1] at e; cases e; exact hb0), fun rows e => (by rw [hw1] at e; cases e)⟩
        · intro d hd
          simp only [List.mem_cons, List.not_mem_nil, or_false] at hd
          rcases hd with rfl | rfl
          · exact .str _
          · exact .int _
        · rintro c d H5 ⟨rfl, dd, rfl, g5, hx⟩
          exact ⟨g5, X.bsE, _, dd, _, rfl, rfl, hx, .shape X.bs X.bsA rfl⟩
        · intro H9 g9
          refine ⟨kept_of g9, fun H7 un ck => ?_⟩
          have g7 : Gr (TT K) H' H7 := gr_unpin pr g9 un ck
          walk_at "go"
          exact ⟨gp.trans g7, _, _, _, _, _, rfl⟩
      · cases hx
        have ht1 : SqT K H' tb [.ref fb, .ref lb] := sqT_of (gp.tup ztb)
        refine ⟨tb, _, rfl, ht1, rfl, _, _, rfl, _, _, rfl, rfl, ?_⟩
        walk_at "go"
        refine w_pin (w_cons (w_var rfl (w_cons (w_var rfl (w_nil fun H8 pr lams => ?_)))))
        have hf1 := gp.keep _ _ (gzb.keep _ _ ((gtb (TT K)).keep _ _ ((gmb (TT K)).keep _ _ hfb lamO_tbl) lamO_tbl) lamO_tbl) lamO_tbl
        have hc1 := gp.keep _ _ (gzb.keep _ _ ((gtb (TT K)).keep _ _ ((gmb (TT K)).keep _ _ hcb codeO_tbl) codeO_tbl) codeO_tbl) codeO_tbl
        have TH : Thunk P w K mg base 8 H8 fb (spLam (fun E => tCall (spHooksP K (TT K)) [] E (tCons (tVar 0) tNil)) ["bent"] [some v1]) := lams _ (List.mem_cons_of_mem _ (List.mem_cons_self ..)) fb cb hf1 hc1
        have hl8 := pinR_to pr _ _ (gp.lst zlb)
        have g0p : Gr (TT K) H H' := gOD.trans gp
        have hr8 := (Gr.rowsArg g1A hr1)
        have hr9 := (Gr.rowsArg g4A hrn)
        refine ⟨fb, lb, [.str "BadShape", .int at1], [.str "BadShape", .int at1], _, rfl, ends_bad (i := at1) TH (fun cs mx Q0 E0 hb0 => ?_), hl8, .cons (.str _) (.cons (.int _) .nil), Nat.le_of_ble_eq_true rfl, ?_, ?_, ?_⟩
        · refine w_call0 (w_cons (w_var rfl (w_nil ?_)))
          exact ⟨v1, xs1, rfl, RowsArg.to (RowsArg.to (Gr.rowsArg (gzA.trans gp) hr8) fun b o e _ => pinR_to pr b o e) mx, fun w e => (by rw [hw1] at e; cases e; exact hb0), fun rows e => (by rw [hw1] at e; cases e)⟩
        · intro d hd
          simp only [List.mem_cons, List.not_mem_nil, or_false] at hd
          rcases hd with rfl | rfl
          · exact .str _
          · exact .int _
        · rintro c d H5 ⟨rfl, dd, rfl, g5, hx⟩
          exact ⟨g5, X.bsE, _, dd, _, rfl, rfl, hx, .shape X.bs X.bsA rfl⟩
        · intro H9 g9
          refine ⟨kept_of g9, fun H7 un ck => ?_⟩
          have g7 : Gr (TT K) H' H7 := gr_unpin pr g9 un ck
          walk_at "go"
          exact ⟨gp.trans g7, _, _, _, _, _, rfl⟩
      · cases hx
        have ht1 : SqT K H' tc [.ref fc, .ref lc] := sqT_of (gp.tup ztc)
        refine ⟨tc, _, rfl, ht1, rfl, _, _, rfl, _, _, rfl, rfl, ?_⟩
        walk_at "go"
        refine w_pin (w_cons (w_var rfl (w_cons (w_var rfl (w_nil fun H8 pr lams => ?_)))))
        have hf1 := gp.keep _ _ (gzc.keep _ _ ((gtc (TT K)).keep _ _ ((gmc (TT K)).keep _ _ hfc lamO_tbl) lamO_tbl) lamO_tbl) lamO_tbl
        have hc1 := gp.keep _ _ (gzc.keep _ _ ((gtc (TT K)).keep _ _ ((gmc (TT K)).keep _ _ hcc codeO_tbl) codeO_tbl) codeO_tbl) codeO_tbl
        have TH : Thunk P w K mg base 8 H8 fc (spLam (fun E => tCall (spTurned K (TT K)) [] E (tCons (tVar 0) tNil)) ["none"] [some vn]) := lams _ (List.mem_cons_of_mem _ (List.mem_cons_of_mem _ (List.mem_cons_self ..))) fc cc hf1 hc1
        have hl8 := pinR_to pr _ _ (gp.lst zlc)
        have g0p : Gr (TT K) H H' := gOD.trans gp
        have hr8 := (Gr.rowsArg g1A hr1)
        have hr9 := (Gr.rowsArg g4A hrn)
        refine ⟨fc, lc, [.str "BadShape", .int 0], [.str "BadShape", .int 0], _, rfl, ends_bad (i := 0) TH (fun cs mx Q0 E0 hb0 => ?_), hl8, .cons (.str _) (.cons (.int _) .nil), Nat.le_of_ble_eq_true rfl, ?_, ?_, ?_⟩
        · refine w_call0 (w_cons (w_var rfl (w_nil ?_)))
          exact ⟨vn, xsn, rfl, RowsArg.to (RowsArg.to (Gr.rowsArg (gzA.trans gp) hr9) fun b o e _ => pinR_to pr b o e) mx, fun w e => (by rw [hwn] at e; cases e; exact hb0), fun rows e => (by rw [hwn] at e; cases e)⟩
        · intro d hd
          simp only [List.mem_cons, List.not_mem_nil, or_false] at hd
          rcases hd with rfl | rfl
          · exact .str _
          · exact .int _
        · rintro c d H5 ⟨rfl, dd, rfl, g5, hx⟩
          exact ⟨g5, X.bsE, _, dd, _, rfl, rfl, hx, .shape X.bs X.bsA rfl⟩
        · intro H9 g9
          refine ⟨kept_of g9, fun H7 un ck => ?_⟩
          have g7 : Gr (TT K) H' H7 := gr_unpin pr g9 un ck
          walk_at "go"
          exact ⟨gp.trans g7, _, _, _, _, _, rfl⟩
      · cases hx
        have ht1 : SqT K H' td [.ref fd, .ref ld] := sqT_of (gp.tup ztd)
        refine ⟨td, _, rfl, ht1, rfl, _, _, rfl, _, _, rfl, rfl, ?_⟩
        walk_at "go"
        refine w_pin (w_cons (w_var rfl (w_cons (w_var rfl (w_nil fun H8 pr lams => ?_)))))
        have hf1 := gp.keep _ _ (gzd.keep _ _ ((gtd (TT K)).keep _ _ ((gmd (TT K)).keep _ _ hfd lamO_tbl) lamO_tbl) lamO_tbl) lamO_tbl
        have hc1 := gp.keep _ _ (gzd.keep _ _ ((gtd (TT K)).keep _ _ ((gmd (TT K)).keep _ _ hcd codeO_tbl) codeO_tbl) codeO_tbl) codeO_tbl
        have TH : Thunk P w K mg base 8 H8 fd (spLam (fun E => tCallK0 1 (spReadShape K (TT K)) (fun zs => zs) E (tCons (tVar 0) tNil)) ["none"] [some vn]) := lams _ (List.mem_cons_of_mem _ (List.mem_cons_of_mem _ (List.mem_cons_of_mem _ (List.mem_cons_self ..)))) fd cd hf1 hc1
        have hl8 := pinR_to pr _ _ (gp.lst zld)
        have g0p : Gr (TT K) H H' := gOD.trans gp
        have hr8 := (Gr.rowsArg g1A hr1)
        have hr9 := (Gr.rowsArg g4A hrn)
        refine ⟨fd, ld, [.str "BadShape", .int 0], [.str "BadShape", .int 0], _, rfl, ends_bad (i := 0) TH (fun cs mx Q0 E0 hb0 => ?_), hl8, .cons (.str _) (.cons (.int _) .nil), Nat.le_of_ble_eq_true rfl, ?_, ?_, ?_⟩
        · refine w_callK0 (w_cons (w_var rfl (w_nil ⟨rfl, ?_⟩)))
          exact ⟨vn, xsn, rfl, RowsArg.to (RowsArg.to (Gr.rowsArg (gzA.trans gp) hr9) fun b o e _ => pinR_to pr b o e) mx, fun w e => (by rw [hwn] at e; cases e; exact hb0), fun rows e => (by rw [hwn] at e; cases e)⟩
        · intro d hd
          simp only [List.mem_cons, List.not_mem_nil, or_false] at hd
          rcases hd with rfl | rfl
          · exact .str _
          · exact .int _
        · rintro c d H5 ⟨rfl, dd, rfl, g5, hx⟩
          exact ⟨g5, X.bsE, _, dd, _, rfl, rfl, hx, .shape X.bs X.bsA rfl⟩
        · intro H9 g9
          refine ⟨kept_of g9, fun H7 un ck => ?_⟩
          have g7 : Gr (TT K) H' H7 := gr_unpin pr g9 un ck
          walk_at "go"
          exact ⟨gp.trans g7, _, _, _, _, _, rfl⟩
      · cases hx
        have ht1 : SqT K H' te [.ref fe, .ref le] := sqT_of (gp.tup zte)
        refine ⟨te, _, rfl, ht1, rfl, _, _, rfl, _, _, rfl, rfl, ?_⟩
        walk_at "go"
        refine w_pin (w_cons (w_var rfl (w_cons (w_var rfl (w_nil fun H8 pr lams => ?_)))))
        have hf1 := gp.keep _ _ (gze.keep _ _ ((gte (TT K)).keep _ _ ((gme (TT K)).keep _ _ hfe lamO_tbl) lamO_tbl) lamO_tbl) lamO_tbl
        have hc1 := gp.keep _ _ (gze.keep _ _ ((gte (TT K)).keep _ _ ((gme (TT K)).keep _ _ hce codeO_tbl) codeO_tbl) codeO_tbl) codeO_tbl
        have TH : Thunk P w K mg base 8 H8 fe (spLam (fun E => tCall (spCore K (TT K)) [] E (tCons (tVar 0) tNil)) ["bent"] [some v1]) := lams _ (List.mem_cons_of_mem _ (List.mem_cons_of_mem _ (List.mem_cons_of_mem _ (List.mem_cons_of_mem _ (List.mem_cons_self ..))))) fe ce hf1 hc1
        have hl8 := pinR_to pr _ _ (gp.lst zle)
        have g0p : Gr (TT K) H H' := gOD.trans gp
        have hr8 := (Gr.rowsArg g1A hr1)
        have hr9 := (Gr.rowsArg g4A hrn)
        refine ⟨fe, le, [.str "BadShape", .int at1], [.str "BadShape", .int at1], _, rfl, ends_bad (i := at1) TH (fun cs mx Q0 E0 hb0 => ?_), hl8, .cons (.str _) (.cons (.int _) .nil), Nat.le_of_ble_eq_true rfl, ?_, ?_, ?_⟩
        · refine w_call0 (w_cons (w_var rfl (w_nil ?_)))
          exact ⟨v1, xs1, rfl, RowsArg.to (RowsArg.to (Gr.rowsArg (gzA.trans gp) hr8) fun b o e _ => pinR_to pr b o e) mx, fun w e => (by rw [hw1] at e; cases e; exact hb0), fun rows e => (by rw [hw1] at e; cases e)⟩
        · intro d hd
          simp only [List.mem_cons, List.not_mem_nil, or_false] at hd
          rcases hd with rfl | rfl
          · exact .str _
          · exact .int _
        · rintro c d H5 ⟨rfl, dd, rfl, g5, hx⟩
          exact ⟨g5, X.bsE, _, dd, _, rfl, rfl, hx, .shape X.bs X.bsA rfl⟩
        · intro H9 g9
          refine ⟨kept_of g9, fun H7 un ck => ?_⟩
          have g7 : Gr (TT K) H' H7 := gr_unpin pr g9 un ck
          walk_at "go"
          exact ⟨gp.trans g7, _, _, _, _, _, rfl⟩
      · cases hx
        have ht1 : SqT K H' tf [.ref ff, .ref lf] := sqT_of (gp.tup ztf)
        refine ⟨tf, _, rfl, ht1, rfl, _, _, rfl, _, _, rfl, rfl, ?_⟩
        walk_at "go"
        refine w_pin (w_cons (w_var rfl (w_cons (w_var rfl (w_nil fun H8 pr lams => ?_)))))
        have hf1 := gp.keep _ _ (gzf.keep _ _ ((gtf (TT K)).keep _ _ ((gmf (TT K)).keep _ _ hff lamO_tbl) lamO_tbl) lamO_tbl) lamO_tbl
        have hc1 := gp.keep _ _ (gzf.keep _ _ ((gtf (TT K)).keep _ _ ((gmf (TT K)).keep _ _ hcf codeO_tbl) codeO_tbl) codeO_tbl) codeO_tbl
        have TH : Thunk P w K mg base 8 H8 ff (spLam (fun E => tCall (spFalling K (TT K)) [] E (tCons (tVar 0) (tCons (tVar 1) tNil))) ["bent", "far"] [some v1, some (.int far)]) := lams _ (List.mem_cons_of_mem _ (List.mem_cons_of_mem _ (List.mem_cons_of_mem _ (List.mem_cons_of_mem _ (List.mem_cons_of_mem _ (List.mem_cons_self ..)))))) ff cf hf1 hc1
        have hl8 := pinR_to pr _ _ (gp.lst zlf)
        have g0p : Gr (TT K) H H' := gOD.trans gp
        have hr8 := (Gr.rowsArg g1A hr1)
        have hr9 := (Gr.rowsArg g4A hrn)
        refine ⟨ff, lf, [.str "BadShape", .int at1], [.str "BadShape", .int at1], _, rfl, ends_bad (i := at1) TH (fun cs mx Q0 E0 hb0 => ?_), hl8, .cons (.str _) (.cons (.int _) .nil), Nat.le_of_ble_eq_true rfl, ?_, ?_, ?_⟩
        · refine w_call0 (w_cons (w_var rfl (w_cons (w_var rfl (w_nil ?_)))))
          exact ⟨v1, xs1, far, rfl, RowsArg.to (RowsArg.to (Gr.rowsArg (gzA.trans gp) hr8) fun b o e _ => pinR_to pr b o e) mx, fun w e => (by rw [hw1] at e; cases e; exact hb0), fun rows e => (by rw [hw1] at e; cases e)⟩
        · intro d hd
          simp only [List.mem_cons, List.not_mem_nil, or_false] at hd
          rcases hd with rfl | rfl
          · exact .str _
          · exact .int _
        · rintro c d H5 ⟨rfl, dd, rfl, g5, hx⟩
          exact ⟨g5, X.bsE, _, dd, _, rfl, rfl, hx, .shape X.bs X.bsA rfl⟩
        · intro H9 g9
          refine ⟨kept_of g9, fun H7 un ck => ?_⟩
          have g7 : Gr (TT K) H' H7 := gr_unpin pr g9 un ck
          walk_at "go"
          exact ⟨gp.trans g7, _, _, _, _, _, rfl⟩
      · cases hx
        have ht1 : SqT K H' tg [.ref fg, .ref lg] := sqT_of (gp.tup ztg)
        refine ⟨tg, _, rfl, ht1, rfl, _, _, rfl, _, _, rfl, rfl, ?_⟩
        walk_at "go"
        refine w_pin (w_cons (w_var rfl (w_cons (w_var rfl (w_nil fun H8 pr lams => ?_)))))
        have hf1 := gp.keep _ _ (gzg.keep _ _ ((gtg (TT K)).keep _ _ ((gmg (TT K)).keep _ _ hfg lamO_tbl) lamO_tbl) lamO_tbl) lamO_tbl
        have hc1 := gp.keep _ _ (gzg.keep _ _ ((gtg (TT K)).keep _ _ ((gmg (TT K)).keep _ _ hcg codeO_tbl) codeO_tbl) codeO_tbl) codeO_tbl
        have TH : Thunk P w K mg base 8 H8 fg (spLam (fun E => tCall (spGaps K (TT K)) [] E (tCons (tVar 0) (tCons (tVar 1) tNil))) ["none", "far"] [some vn, some (.int far)]) := lams _ (List.mem_cons_of_mem _ (List.mem_cons_of_mem _ (List.mem_cons_of_mem _ (List.mem_cons_of_mem _ (List.mem_cons_of_mem _ (List.mem_cons_of_mem _ (List.mem_cons_self ..))))))) fg cg hf1 hc1
        have hl8 := pinR_to pr _ _ (gp.lst zlg)
        have g0p : Gr (TT K) H H' := gOD.trans gp
        have hr8 := (Gr.rowsArg g1A hr1)
        have hr9 := (Gr.rowsArg g4A hrn)
        refine ⟨fg, lg, [.str "BadShape", .int 0], [.str "BadShape", .int 0], _, rfl, ends_bad (i := 0) TH (fun cs mx Q0 E0 hb0 => ?_), hl8, .cons (.str _) (.cons (.int _) .nil), Nat.le_of_ble_eq_true rfl, ?_, ?_, ?_⟩
        · refine w_call0 (w_cons (w_var rfl (w_cons (w_var rfl (w_nil ?_)))))
          exact ⟨vn, xsn, far, rfl, RowsArg.to (RowsArg.to (Gr.rowsArg (gzA.trans gp) hr9) fun b o e _ => pinR_to pr b o e) mx, fun w e => (by rw [hwn] at e; cases e; exact hb0), fun rows e => (by rw [hwn] at e; cases e)⟩
        · intro d hd
          simp only [List.mem_cons, List.not_mem_nil, or_false] at hd
          rcases hd with rfl | rfl
          · exact .str _
          · exact .int _
        · rintro c d H5 ⟨rfl, dd, rfl, g5, hx⟩
          exact ⟨g5, X.bsE, _, dd, _, rfl, rfl, hx, .shape X.bs X.bsA rfl⟩
        · intro H9 g9
          refine ⟨kept_of g9, fun H7 un ck => ?_⟩
          have g7 : Gr (TT K) H' H7 := gr_unpin pr g9 un ck
          walk_at "go"
          exact ⟨gp.trans g7, _, _, _, _, _, rfl⟩
      · cases hx
        have ht1 : SqT K H' th [.ref fh, .ref lh] := sqT_of (gp.tup zth)
        refine ⟨th, _, rfl, ht1, rfl, _, _, rfl, _, _, rfl, rfl, ?_⟩
        walk_at "go"
        refine w_pin (w_cons (w_var rfl (w_cons (w_var rfl (w_nil fun H8 pr lams => ?_)))))
        have hf1 := gp.keep _ _ (gzh.keep _ _ ((gth (TT K)).keep _ _ ((gmh (TT K)).keep _ _ hfh lamO_tbl) lamO_tbl) lamO_tbl) lamO_tbl
        have hc1 := gp.keep _ _ (gzh.keep _ _ ((gth (TT K)).keep _ _ ((gmh (TT K)).keep _ _ hch codeO_tbl) codeO_tbl) codeO_tbl) codeO_tbl
        have TH : Thunk P w K mg base 8 H8 fh (spLam (fun E => tCall (spFalling K (TT K)) [] E (tCons (tVar 0) (tCons (tVar 1) tNil))) ["lam", "far"] [some (.ref a), some (.int far)]) := lams _ (List.mem_cons_of_mem _ (List.mem_cons_of_mem _ (List.mem_cons_of_mem _ (List.mem_cons_of_mem _ (List.mem_cons_of_mem _ (List.mem_cons_of_mem _ (List.mem_cons_of_mem _ (List.mem_cons_self ..)))))))) fh ch hf1 hc1
        have hl8 := pinR_to pr _ _ (gp.lst zlh)
        have g0p : Gr (TT K) H H' := gOD.trans gp
        have hr8 := (Gr.rowsArg g1A hr1)
        have hr9 := (Gr.rowsArg g4A hrn)
        refine ⟨fh, lh, [.str "TooMany", .str "site", .int (far.natAbs : Nat)], [.str "TooMany", .str "site", .int (far.natAbs : Nat)], _, rfl, ends_many (z := "site") (i := (far.natAbs : Nat)) TH (fun cs mx Q0 E0 hb0 => ?_), hl8, .cons (.str _) (.cons (.str _) (.cons (.int _) .nil)), Nat.le_of_ble_eq_true rfl, ?_, ?_, ?_⟩
        · refine w_call0 (w_cons (w_var rfl (w_cons (w_var rfl (w_nil ?_)))))
          refine ⟨(.ref a), (lam.map V.int), far, rfl, RowsArg.to (RowsArg.to (Gr.rowsArg (gzA.trans gp) (rowsArg_ints (.inr (g0A.sqT ha)) (by omega))) fun b o e _ => pinR_to pr b o e) mx, fun w e => (by rw [hp.ok] at e; cases e), fun rows2 _ er => ?_⟩
          have er := map_int_inj er
          subst er
          exact ⟨by omega, fun _ => hb0, fun e => by omega⟩
        · intro d hd
          simp only [List.mem_cons, List.not_mem_nil, or_false] at hd
          rcases hd with rfl | rfl | rfl
          · exact .str _
          · exact .str _
          · exact .int _
        · rintro c d H5 ⟨rfl, dd, rfl, g5, hx⟩
          exact ⟨g5, X.tmE, _, dd, _, rfl, rfl, hx, .many X.tm X.tmW X.tmC rfl rfl⟩
        · intro H9 g9
          refine ⟨kept_of g9, fun H7 un ck => ?_⟩
          have g7 : Gr (TT K) H' H7 := gr_unpin pr g9 un ck
          walk_at "go"
          exact ⟨gp.trans g7, _, _, _, _, _, rfl⟩
      · cases hx
        have ht1 : SqT K H' ti [.ref fi, .ref li] := sqT_of (gp.tup zti)
        refine ⟨ti, _, rfl, ht1, rfl, _, _, rfl, _, _, rfl, rfl, ?_⟩
        walk_at "go"
        refine w_pin (w_cons (w_var rfl (w_cons (w_var rfl (w_nil fun H8 pr lams => ?_)))))
        have hf1 := gp.keep _ _ (gzi.keep _ _ ((gti (TT K)).keep _ _ ((gmi (TT K)).keep _ _ hfi lamO_tbl) lamO_tbl) lamO_tbl) lamO_tbl
        have hc1 := gp.keep _ _ (gzi.keep _ _ ((gti (TT K)).keep _ _ ((gmi (TT K)).keep _ _ hci codeO_tbl) codeO_tbl) codeO_tbl) codeO_tbl
        have TH : Thunk P w K mg base 8 H8 fi (spLam (fun E => tCall (spGaps K (TT K)) [] E (tCons (tVar 0) (tCons (tVar 1) tNil))) ["lam", "far"] [some (.ref a), some (.int far)]) := lams _ (List.mem_cons_of_mem _ (List.mem_cons_of_mem _ (List.mem_cons_of_mem _ (List.mem_cons_of_mem _ (List.mem_cons_of_mem _ (List.mem_cons_of_mem _ (List.mem_cons_of_mem _ (List.mem_cons_of_mem _ (List.mem_cons_self ..))))))))) fi ci hf1 hc1
        have hl8 := pinR_to pr _ _ (gp.lst zli)
        have g0p : Gr (TT K) H H' := gOD.trans gp
        have hr8 := (Gr.rowsArg g1A hr1)
        have hr9 := (Gr.rowsArg g4A hrn)
        refine ⟨fi, li, [.str "TooMany", .str "site", .int (far.natAbs : Nat)], [.str "TooMany", .str "site", .int (far.natAbs : Nat)], _, rfl, ends_many (z := "site") (i := (far.natAbs : Nat)) TH (fun cs mx Q0 E0 hb0 => ?_), hl8, .cons (.str _) (.cons (.str _) (.cons (.int _) .nil)), Nat.le_of_ble_eq_true rfl, ?_, ?_, ?_⟩
        · refine w_call0 (w_cons (w_var rfl (w_cons (w_var rfl (w_nil ?_)))))
          refine ⟨(.ref a), (lam.map V.int), far, rfl, RowsArg.to (RowsArg.to (Gr.rowsArg (gzA.trans gp) (rowsArg_ints (.inr (g0A.sqT ha)) (by omega))) fun b o e _ => pinR_to pr b o e) mx, fun w e => (by rw [hp.ok] at e; cases e), fun rows2 _ er => ?_⟩
          have er := map_int_inj er
          subst er
          exact ⟨by omega, fun _ => hb0, fun e => by omega⟩
        · intro d hd
          simp only [List.mem_cons, List.not_mem_nil, or_false] at hd
          rcases hd with rfl | rfl | rfl
          · exact .str _
          · exact .str _
          · exact .int _
        · rintro c d H5 ⟨rfl, dd, rfl, g5, hx⟩
          exact ⟨g5, X.tmE, _, dd, _, rfl, rfl, hx, .many X.tm X.tmW X.tmC rfl rfl⟩
        · intro H9 g9
          refine ⟨kept_of g9, fun H7 un ck => ?_⟩
          have g7 : Gr (TT K) H' H7 := gr_unpin pr g9 un ck
          walk_at "go"
          exact ⟨gp.trans g7, _, _, _, _, _, rfl⟩
      · cases hx
        have ht1 : SqT K H' tj [.ref fj, .ref lj] := sqT_of (gp.tup ztj)
        refine ⟨tj, _, rfl, ht1, rfl, _, _, rfl, _, _, rfl, rfl, ?_⟩
        walk_at "go"
        refine w_pin (w_cons (w_var rfl (w_cons (w_var rfl (w_nil fun H8 pr lams => ?_)))))
        have hf1 := gp.keep _ _ (gzj.keep _ _ ((gtj (TT K)).keep _ _ ((gmj (TT K)).keep _ _ hfj lamO_tbl) lamO_tbl) lamO_tbl) lamO_tbl
        have hc1 := gp.keep _ _ (gzj.keep _ _ ((gtj (TT K)).keep _ _ ((gmj (TT K)).keep _ _ hcj codeO_tbl) codeO_tbl) codeO_tbl) codeO_tbl
        have TH : Thunk P w K mg base 8 H8 fj (spLam (fun E => tCall (spReadShape K (TT K)) [] E (tCons (tVar 0) tNil)) ["wide"] [some (.ref wd)]) := lams _ (List.mem_cons_of_mem _ (List.mem_cons_of_mem _ (List.mem_cons_of_mem _ (List.mem_cons_of_mem _ (List.mem_cons_of_mem _ (List.mem_cons_of_mem _ (List.mem_cons_of_mem _ (List.mem_cons_of_mem _ (List.mem_cons_of_mem _ (List.mem_cons_self ..)))))))))) fj cj hf1 hc1
        have hl8 := pinR_to pr _ _ (gp.lst zlj)
        have g0p : Gr (TT K) H H' := gOD.trans gp
        have hr8 := (Gr.rowsArg g1A hr1)
        have hr9 := (Gr.rowsArg g4A hrn)
        refine ⟨fj, lj, [.str "TooMany", .str "cells", .int many], [.str "TooMany", .str "cells", .int many], _, rfl, ends_many (z := "cells") (i := many) TH (fun cs mx Q0 E0 hb0 => ?_), hl8, .cons (.str _) (.cons (.str _) (.cons (.int _) .nil)), Nat.le_of_ble_eq_true rfl, ?_, ?_, ?_⟩
        · refine w_call0 (w_cons (w_var rfl (w_nil ?_)))
          refine ⟨(.ref wd), (rows.map V.int), rfl, RowsArg.to (RowsArg.to (Gr.rowsArg (gzA.trans gp) (rowsArg_ints (.inr (g9A.sqT hwd)) (by omega))) fun b o e _ => pinR_to pr b o e) mx, fun w e => (by rw [hwp.ok] at e; cases e), fun rows2 _ er => ?_⟩
          have er := map_int_inj er
          subst er
          rw [← hws] at hb0
          exact ⟨by omega, fun _ => hb0, fun e => by omega⟩
        · intro d hd
          simp only [List.mem_cons, List.not_mem_nil, or_false] at hd
          rcases hd with rfl | rfl | rfl
          · exact .str _
          · exact .str _
          · exact .int _
        · rintro c d H5 ⟨rfl, dd, rfl, g5, hx⟩
          exact ⟨g5, X.tmE, _, dd, _, rfl, rfl, hx, .many X.tm X.tmW X.tmC rfl rfl⟩
        · intro H9 g9
          refine ⟨kept_of g9, fun H7 un ck => ?_⟩
          have g7 : Gr (TT K) H' H7 := gr_unpin pr g9 un ck
          walk_at "go"
          exact ⟨gp.trans g7, _, _, _, _, _, rfl⟩
      · cases hx
        have ht1 : SqT K H' tk [.ref fk, .ref lk] := sqT_of (gp.tup ztk)
        refine ⟨tk, _, rfl, ht1, rfl, _, _, rfl, _, _, rfl, rfl, ?_⟩
        walk_at "go"
        refine w_pin (w_cons (w_var rfl (w_cons (w_var rfl (w_nil fun H8 pr lams => ?_)))))
        have hf1 := gp.keep _ _ (gzk.keep _ _ ((gtk (TT K)).keep _ _ ((gmk (TT K)).keep _ _ hfk lamO_tbl) lamO_tbl) lamO_tbl) lamO_tbl
        have hc1 := gp.keep _ _ (gzk.keep _ _ ((gtk (TT K)).keep _ _ ((gmk (TT K)).keep _ _ hck codeO_tbl) codeO_tbl) codeO_tbl) codeO_tbl
        have TH : Thunk P w K mg base 8 H8 fk (spLam (fun E => tCall (spCore K (TT K)) [] E (tCons (tCB (uList K) (tCons (tVar 0) tNil)) tNil)) ["wide"] [some (.ref wd)]) := lams _ (List.mem_cons_of_mem _ (List.mem_cons_of_mem _ (List.mem_cons_of_mem _ (List.mem_cons_of_mem _ (List.mem_cons_of_mem _ (List.mem_cons_of_mem _ (List.mem_cons_of_mem _ (List.mem_cons_of_mem _ (List.mem_cons_of_mem _ (List.mem_cons_of_mem _ (List.mem_cons_self ..))))))))))) fk ck hf1 hc1
        have hl8 := pinR_to pr _ _ (gp.lst zlk)
        have g0p : Gr (TT K) H H' := gOD.trans gp
        have hr8 := (Gr.rowsArg g1A hr1)
        have hr9 := (Gr.rowsArg g4A hrn)
        refine ⟨fk, lk, [.str "TooMany", .str "cells", .int many], [.str "TooMany", .str "cells", .int many], _, rfl, ends_many (z := "cells") (i := many) TH (fun cs mx Q0 E0 hb0 => ?_), hl8, .cons (.str _) (.cons (.str _) (.cons (.int _) .nil)), Nat.le_of_ble_eq_true rfl, ?_, ?_, ?_⟩
        · have hq : Sq K (mix cs HN H8) wd (rows.map V.int) := .inr ?wsq
          refine w_call0 (w_cons (w_cb (w_cons (w_var rfl (w_nil (w_list hq (fun lw HW nW gW hW => w_nil ?_)))))))
          case wsq => exact sqT_to (sqT_to ((gzA.trans gp).sqT (g9A.sqT hwd)) fun o e _ => pinR_to pr _ o e) fun o e n => mx _ o e n
          refine ⟨.ref lw, (rows.map V.int), rfl, rowsArg_ints (sqA_of hW) (by omega), fun w e => (by rw [hwp.ok] at e; cases e), fun rows2 _ er => ?_⟩
          have er := map_int_inj er
          subst er
          rw [← hws] at hb0
          exact ⟨by omega, fun _ => hb0.up (gW (TT K)), fun e => by omega⟩
        · intro d hd
          simp only [List.mem_cons, List.not_mem_nil, or_false] at hd
          rcases hd with rfl | rfl | rfl
          · exact .str _
          · exact .str _
          · exact .int _
        · rintro c d H5 ⟨rfl, dd, rfl, g5, hx⟩
          exact ⟨g5, X.tmE, _, dd, _, rfl, rfl, hx, .many X.tm X.tmW X.tmC rfl rfl⟩
        · intro H9 g9
          refine ⟨kept_of g9, fun H7 un ck => ?_⟩
          have g7 : Gr (TT K) H' H7 := gr_unpin pr g9 un ck
          walk_at "go"
          exact ⟨gp.trans g7, _, _, _, _, _, rfl⟩
      · cases hx
    · obtain ⟨gp, u6, u7, u10, u11, u12, rfl⟩ := p
      have g0p := gOD.trans gp
      walk_at "go"
      intro s1 K1 m1 k1 e1
      walk_at "go"
      intro s2 K2 m2 k2 e2
      walk_at "go"
      refine lc_R1 (T := TT K) (fun _ => true) (fun _ => .int 1) (by decide) (by decide) (fun _ => rfl) (fun k k0 k1 H7 g7 Yes No hy hn => ?_) (fun D7 K3 k3 nD7 e3 => ?_)
      · walk_at "go"
        exact hy rfl _ (Gr.refl _ _)
      walk_at "go"
      intro s4 K4 k4 e4
      walk_at "go"
      intro s5 K5 m5 k5 e5
      walk_at "go"
      intro s6 K6 m6 k6 e6
      walk_at "go"
      have gp6 : Gr (TT K) H' K6 := (((((k1 _).trans (k2 _)).trans k3).trans (k4 _)).trans (k5 _)).trans (k6 _)
      have g06 := g0p.trans gp6
      rw [List.filter_eq_self.mpr (fun _ _ => rfl)] at e4
      refine ⟨J, s6, _, rfl, g06.jar hj, sqA_of e6, by simp, by simp, fun x hx => ?_⟩
      have hW : ∃ (nr : Addr) (rows : List Int), x = .ref nr ∧ SqT K K6 nr (rows.map V.int) ∧ Part rows ∧ rows.sum = 30 := by
        simp only [List.mem_cons, List.not_mem_nil, or_false] at hx
        rcases hx with rfl | rfl | rfl | rfl
        · exact ⟨s1, [30], rfl, sqT_of ((k6 (TT K)).tup ((k5 (TT K)).tup ((k4 (TT K)).tup (k3.tup ((k2 (TT K)).tup e1))))), ⟨by decide, by decide⟩, rfl⟩
        · exact ⟨s2, [15, 15], rfl, sqT_of ((k6 (TT K)).tup ((k5 (TT K)).tup ((k4 (TT K)).tup (k3.tup e2)))), ⟨by decide, by decide⟩, rfl⟩
        · refine ⟨s4, (rgI 0 30).map fun _ => 1, rfl, (k6 (TT K)).sqT ((k5 (TT K)).sqT ?_), part_ones 30, sum_ones 30 (by decide)⟩
          rw [List.map_map]
          exact e4
        · exact ⟨s5, [10, 9, 8, 3], rfl, sqT_of ((k6 (TT K)).tup e5), ⟨by decide, by decide⟩, rfl⟩
      obtain ⟨nr, rows2, rfl, hnr, hnp, hns⟩ := hW
      have hnl := len_le_sum hnp.pos
      walk_at "go"
      intro s7 K7 m7 k7 e7
      walk_at "go"
      refine ⟨J, s7, _, rfl, (k7 (TT K)).jar (g06.jar hj), sqA_of e7, by decide, by decide, fun x hx => ?_⟩
      have hedge : ∃ ed : Int, x = .int ed ∧ ed.natAbs ≤ 60 := by
        simp only [List.mem_cons, List.not_mem_nil, or_false] at hx
        rcases hx with rfl | rfl <;> exact ⟨_, rfl, by decide⟩
      obtain ⟨ed, rfl, hed⟩ := hedge
      have hn7 := (k7 (TT K)).sqT hnr
      have sn7 : Sq K K7 nr (rows2.map V.int) := .inr hn7
      have g07 := g06.trans (k7 (TT K))
      walk_at "go"
      intro l8 K8 n8 k8 e8
      walk_at "go"
      refine read_ok (rowsArg_ints (sqA_of e8) (by omega)) hnp (by omega) fun r9 K9 k9 e9 => ?_
      walk_at "go"
      refine like_tups e9 (((k8 (TT K)).trans k9).sqT hn7) (by omega) fun KA kA => ?_
      have g0A2 := g07.trans (((k8 (TT K)).trans k9).trans kA)
      walk_at "go"
      refine falling_ok (rowsArg_ints (.inr (g0A2.sqT ha)) (by omega)) hp hz hed fun KB kB => ?_
      rw [M.falls lam ed hp]
      walk_at "go"
      refine ⟨a, lam, ed, rfl, .inr ((g0A2.trans kB).sqT ha), by omega, fun KC kC => ?_⟩
      walk_at "go"
      exact like_bls fun KD kD => q KD (((g0A2.trans kB).trans kC).trans kD)
end
end K20
end
section
set_option Elab.async false
set_option linter.all false
set_option maxRecDepth 100000
set_option maxHeartbeats 4000000
namespace K20
open PySem PySem.Spec PyProof.Rows L2 LamX U Evl L2H HotX LHot LX LV NdefX
/-! ### steps, by program -/
local macro_rules | `(tactic| walk_at "kp") => `(tactic| first
  | assumption
  | exact sqA_of (by assumption)
  | exact sqB_of (by assumption)
  | exact sqL_of (by assumption)
  | exact sqT_of (by assumption)
  | exact Or.inl (by assumption)
  | exact Or.inr (by assumption)
  | exact Gr.refl _ _
  | exact GrA.gr (by assumption)
  | (apply Gr.trans ?_ (by first | assumption | exact GrA.gr (by assumption)); walk_at "kp")
  | (apply Gr.xd; (first | assumption | exact GrA.gr (T := []) (by assumption)); walk_at "kp")
  | (apply Gr.sq; (first | assumption | exact GrA.gr (T := []) (by assumption)); walk_at "kp")
  | (apply Gr.sqL; (first | assumption | exact GrA.gr (T := []) (by assumption)); walk_at "kp")
  | (apply Gr.sqT; (first | assumption | exact GrA.gr (T := []) (by assumption)); walk_at "kp")
  | (apply Gr.lst; (first | assumption | exact GrA.gr (T := []) (by assumption)); walk_at "kp")
  | (apply Gr.tup; (first | assumption | exact GrA.gr (T := []) (by assumption)); walk_at "kp"))
local macro_rules | `(tactic| walk_at "s") => `(tactic| first
  | with_reducible first
    | refine w_seq ?_ | refine w_asg ?_ | refine w_gname ?_ | refine w_if ?_ | refine w_ret ?_ | refine w_next ?_ | refine w_drop ?_ | refine w_retN ?_ | refine w_brk ?_ | refine w_cont ?_ | refine w_gsub ?_
    | refine w_op ?_ | refine w_c ?_ | refine w_nil ?_ | refine w_cons ?_ | refine w_cb ?_ | refine w_un ?_
    | refine w_I0 ?_ | refine w_U ?_ | refine w_add ?_ | refine w_test ?_ | refine w_tB ?_ | refine w_tr ?_ | refine w_exn ?_ | refine w_trn ?_ | refine w_and ?_ | refine w_or ?_ | refine w_not ?_ | refine w_andV ?_ | refine w_orV ?_ | refine w_notV ?_ | refine w_ifE ?_
    | refine w_eqI ?_ | refine w_neI ?_ | refine w_eqS ?_ | refine w_neS ?_ | refine w_eqB ?_ | refine w_neB ?_ | refine w_isNo ?_ | refine w_notN ?_
    | refine w_call0 ?_ | refine w_tupK ?_ | refine w_lstK ?_ | refine w_bm ?_ | refine w_nop ?_ | refine w_part ?_ | refine w_exi ?_ | refine w_sl ?_
    | refine w_lcS ?_ | refine w_lcR1 ?_ | refine w_lcR2 ?_ | refine w_lcE ?_ | refine w_frS ?_ | refine w_frR1 ?_ | refine w_frR2 ?_ | refine w_frE ?_ | refine w_frT ?_
    | refine w_tYes ?_ | refine w_lcH ?_ | refine w_callE ?_ | refine w_iteD ?_ | refine w_iteND ?_ | refine w_raise ?_ | refine raK1 ?_ | refine raK2 ?_ | refine w_iteNT ?_ | refine w_iteNF ?_ | refine w_ckw ?_ | refine w_callN ?_ | refine w_m1 ?_ | refine w_yes1 ?_ | refine w_iteT ?_ | refine w_iteF ?_ | refine w_abs ?_ | refine w_max2 ?_ | refine w_max3 ?_ | refine w_min2 ?_ | refine w_intI ?_
  | (with_reducible apply w_var; with_unfolding_all rfl)
  | (with_reducible apply w_lenI; walk_at "kp")
  | (with_reducible apply w_len; walk_at "kp")
  | (with_reducible apply w_sum; walk_at "kp")
  | (with_reducible refine lstK ?_ ?_; exact Nat.le_of_ble_eq_true rfl)
  | (with_reducible refine tupK ?_ ?_; exact Nat.le_of_ble_eq_true rfl)
  | (with_reducible apply w_list; walk_at "kp")
  | (with_reducible apply w_tuple; walk_at "kp")
  | (with_reducible apply w_slI; walk_at "kp")
  | (with_reducible apply w_inI; walk_at "kp")
  | (with_reducible apply w_notInI; walk_at "kp"))
local macro_rules | `(tactic| walk_at "go") => `(tactic| repeat' (walk_at "s"))
variable {K : PySem.W.Frag}
def spLaw (K : PySem.W.Frag) : Sp := fun vs H Q _ => ∃ (a : Addr) (ns : List Int), vs = [.ref a] ∧ SqL K H a (ns.map V.int) ∧ Tabs (TT K) H ∧ ∀ H', Gr (TT K) H H' → Q (.bl true) H'
theorem part_nil : Part [] := ⟨List.Pairwise.nil, fun _ h => by cases h⟩
theorem first_stair {rest : TS} {k : Ends} {H : Hp} {J a : Addr} {u2 u3 : Option V} (hj : Jar K H J)
    (h : ∀ l lam H', Gr (TT K) H H' → SqT K H' l (List.map V.int lam) → Part lam → lam.sum ≤ 30 → rest k [some (.ref a), some (.ref J), u2, some (.ref l)] H') :
    tSeq (tAsg (tCall (spStair K (TT K)) [] E0 (tCons (tVar 1) (tCons (tIf (tTest (tOp (uEq K) (tCall (spDraw K) [] E0 (tCons (tVar 1) (tCons (tC (.int 8)) tNil))) (tC (.int 0)))) (tC (.int 30)) (tC (.int 12))) tNil))) (gName 3)) rest k [some (.ref a), some (.ref J), u2, u3] H := by
  walk_at "go"
  refine ⟨J, 8, rfl, hj, by omega, by omega, fun d d0 d1 => ?_⟩
  walk_at "go"
  refine w_dec (fun e => ?_) (fun e => ?_)
  · walk_at "go"
    refine ⟨J, 30, rfl, hj, by omega, by omega, fun l lam H' g hs hp hz => ?_⟩
    walk_at "go"
    exact h l lam H' g hs hp hz
  · walk_at "go"
    refine ⟨J, 12, rfl, hj, by omega, by omega, fun l lam H' g hs hp hz => ?_⟩
    walk_at "go"
    exact h l lam H' g hs hp (by omega)
theorem rd_law : ∀ vs H Q (E : XK), spLaw K vs H Q E → t_law K (spBag K (TT K)) (spStair K (TT K)) (spDraw K) (spParts K (TT K)) (spParts K (TT K)) (spFaultsTold K) (spLikeN K (TT K) 4) (spReadShape K (TT K)) (spGaps K (TT K)) (E_ Q) (start ["script", "jar", "turn", "lam"] vs) H := by
  intro vs H Q E h
  obtain ⟨a, ns, rfl, hs, htab, q⟩ := h
  unfold t_law
  walk_at "go"
  refine ⟨a, ns, rfl, hs, fun J H1 g1 hj1 => ?_⟩
  walk_at "go"
  refine fr_R1 (by decide) (by decide) (fun i σ H' => ∃ u2 u3, σ = [some (.ref a), some (.ref J), u2, u3] ∧ Gr (TT K) H1 H') ⟨_, _, rfl, Gr.refl _ _⟩ (fun i σ' H2 hi p => ?_) (fun σ' H2 p => ?_)
  · obtain ⟨u2, u3, rfl, g2⟩ := p
    have hj2 : Jar K H2 J := g2.jar hj1
    refine w_gname ?_
    refine first_stair hj2 fun l lam H3 g3 h3 hp hz => ?_
    have h03 := (g1.trans g2).trans g3
    have hj3 := g3.jar hj2
    walk_at "go"
    refine ⟨J, l, lam, rfl, hj3, h3, hp, hz, fun H4 g4 => ?_⟩
    walk_at "go"
    refine ⟨J, l, lam, rfl, g4.jar hj3, g4.sqT h3, hp, hz, fun H5 g5 => ?_⟩
    have g35 := g4.trans g5
    walk_at "go"
    refine ⟨J, l, lam, rfl, (h03.trans g35).tabs htab, g35.jar hj3, g35.sqT h3, hp, hz, fun H6 g6 => ?_⟩
    walk_at "go"
    exact ⟨_, _, rfl, g2.trans (g3.trans (g35.trans g6))⟩
  · obtain ⟨u2, u3, rfl, g2⟩ := p
    have h02 := g1.trans g2
    walk_at "go"
    refine read_ok (lam := []) .bare part_nil (by decide) fun s H3 g3 h3 => ?_
    walk_at "go"
    intro t H4 n4 g4 h4
    walk_at "go"
    refine like_tups (l := []) ((g4 (TT K)).sqT h3) (sqT_of h4) (by decide) fun H5 g5 => ?_
    walk_at "go"
    intro z H6 n6 g6 h6
    walk_at "go"
    refine gaps_ok (v := .ref z) (lam := []) (low := 0 - 3) (rowsArg_ints (sqA_of h6) (by decide)) part_nil (by decide) (by decide) fun l7 H7 g7 n7 h7 => ?_
    walk_at "go"
    intro l8 H8 n8 g8 h8
    have e : gapsFrom [] (0 - 3) = [0 - 3, 0 - 2, 0 - 1] := by decide
    rw [e] at h7
    walk_at "go"
    refine like_lsts (l := [0 - 3, 0 - 2, 0 - 1]) ((g8 (TT K)).lst h7) h8 (by decide) fun H9 g9 => ?_
    exact q H9 (((((((h02.trans g3).trans (g4 _)).trans g5).trans (g6 _)).trans g7).trans (g8 _)).trans g9)
end K20
end
set_option Elab.async false
set_option linter.all false
set_option maxRecDepth 100000
set_option maxHeartbeats 4000000
/-! the defs joined, printed by mk_s11.py -/
namespace K20
open PySem PySem.Spec PyProof.Rows L2 LamX U Evl L2H HotX LHot LX LV NdefX
theorem Has_mono {P : Program} {w : World} {K : PySem.W.Frag} {mg : Str → Option Value} {base : Heap} {x : Str} {j k : Nat} {ps : List Str} {sp : Sp} (h : Has P w K mg base x j ps sp) (hjk : j ≤ k) : Has P w K mg base x k ps sp := by
  obtain ⟨g, kp, fd, F, B⟩ := h
  exact ⟨g, kp, fd, F.mono hjk, B⟩
theorem glob_of {K : PySem.W.Frag} {mg : Str → Option Value} {h : Heap} (X : K.In h) (N : h.Ns mainGlobals mg) (c : He.SaysD fa fn K) : Glob K mg where
  g_ask_text := He.glo_ok X N (c.fact 0 (f := .glo "ask_text") rfl)
  g_ask_cells := He.glo_ok X N (c.fact 1 (f := .glo "ask_cells") rfl)
  g_ten_to := He.glo_ok X N (c.fact 2 (f := .glo "ten_to") rfl)
  g_is_digits := He.glo_ok X N (c.fact 3 (f := .glo "is_digits") rfl)
  g_whole_of := He.glo_ok X N (c.fact 4 (f := .glo "whole_of") rfl)
  g_is_whole := He.glo_ok X N (c.fact 5 (f := .glo "is_whole") rfl)
  g_ask_row_texts := He.glo_ok X N (c.fact 6 (f := .glo "ask_row_texts") rfl)
  g_ask_site := He.glo_ok X N (c.fact 7 (f := .glo "ask_site") rfl)
  g_word_worth := He.glo_ok X N (c.fact 8 (f := .glo "word_worth") rfl)
  g_wrong_row := He.glo_ok X N (c.fact 9 (f := .glo "wrong_row") rfl)
  g_rows_of := He.glo_ok X N (c.fact 10 (f := .glo "rows_of") rfl)
  g_first_gaps := He.glo_ok X N (c.fact 11 (f := .glo "first_gaps") rfl)
  g_rows_of_gaps := He.glo_ok X N (c.fact 12 (f := .glo "rows_of_gaps") rfl)
  g_site_falls := He.glo_ok X N (c.fact 13 (f := .glo "site_falls") rfl)
  g_turn_rows := He.glo_ok X N (c.fact 14 (f := .glo "turn_rows") rfl)
  g_read_shape := He.glo_ok X N (c.fact 15 (f := .glo "read_shape") rfl)
  g_falling := He.glo_ok X N (c.fact 16 (f := .glo "falling") rfl)
  g_gaps := He.glo_ok X N (c.fact 17 (f := .glo "gaps") rfl)
  g_turned := He.glo_ok X N (c.fact 18 (f := .glo "turned") rfl)
  g_hooks := He.glo_ok X N (c.fact 19 (f := .glo "hooks") rfl)
  g_core := He.glo_ok X N (c.fact 20 (f := .glo "core") rfl)
  g__law_bag := He.glo_ok X N (c.fact 21 (f := .glo "_law_bag") rfl)
  g__law_draw := He.glo_ok X N (c.fact 22 (f := .glo "_law_draw") rfl)
  g__law_pick := He.glo_ok X N (c.fact 23 (f := .glo "_law_pick") rfl)
  g__law_reach := He.glo_ok X N (c.fact 24 (f := .glo "_law_reach") rfl)
  g__law_whole := He.glo_ok X N (c.fact 25 (f := .glo "_law_whole") rfl)
  g__law_like := He.glo_ok X N (c.fact 26 (f := .glo "_law_like") rfl)
  g__law_marks := He.glo_ok X N (c.fact 27 (f := .glo "_law_marks") rfl)
  g__law_fault := He.glo_ok X N (c.fact 28 (f := .glo "_law_fault") rfl)
  g__law_tried := He.glo_ok X N (c.fact 29 (f := .glo "_law_tried") rfl)
  g__law_refuses := He.glo_ok X N (c.fact 30 (f := .glo "_law_refuses") rfl)
  g__law_cells_of := He.glo_ok X N (c.fact 31 (f := .glo "_law_cells_of") rfl)
  g__law_columns := He.glo_ok X N (c.fact 32 (f := .glo "_law_columns") rfl)
  g__law_cleaned := He.glo_ok X N (c.fact 33 (f := .glo "_law_cleaned") rfl)
  g__law_strips := He.glo_ok X N (c.fact 34 (f := .glo "_law_strips") rfl)
  g__law_is_gap := He.glo_ok X N (c.fact 35 (f := .glo "_law_is_gap") rfl)
  g__law_stair := He.glo_ok X N (c.fact 36 (f := .glo "_law_stair") rfl)
  g__law_stair_in := He.glo_ok X N (c.fact 37 (f := .glo "_law_stair_in") rfl)
  g__law_bent_stair := He.glo_ok X N (c.fact 38 (f := .glo "_law_bent_stair") rfl)
  g__law_spot := He.glo_ok X N (c.fact 39 (f := .glo "_law_spot") rfl)
  g__law_core_of := He.glo_ok X N (c.fact 40 (f := .glo "_law_core_of") rfl)
  g__law_hooks_walked := He.glo_ok X N (c.fact 41 (f := .glo "_law_hooks_walked") rfl)
  g__law_parts_told := He.glo_ok X N (c.fact 42 (f := .glo "_law_parts_told") rfl)
  g__law_sites_told := He.glo_ok X N (c.fact 43 (f := .glo "_law_sites_told") rfl)
  g__law_faults_told := He.glo_ok X N (c.fact 44 (f := .glo "_law_faults_told") rfl)
  g_law := He.glo_ok X N (c.fact 45 (f := .glo "law") rfl)
  g_Refused := He.glo_ok X N (c.fact 46 (f := .glo "Refused") rfl)
  g_BadNumber := He.glo_ok X N (c.fact 47 (f := .glo "BadNumber") rfl)
  g_BadSum := He.glo_ok X N (c.fact 48 (f := .glo "BadSum") rfl)
  g_BadQuotient := He.glo_ok X N (c.fact 49 (f := .glo "BadQuotient") rfl)
  g_BadLandscape := He.glo_ok X N (c.fact 50 (f := .glo "BadLandscape") rfl)
  g_BadWell := He.glo_ok X N (c.fact 51 (f := .glo "BadWell") rfl)
  g_BadWall := He.glo_ok X N (c.fact 52 (f := .glo "BadWall") rfl)
  g_BadShape := He.glo_ok X N (c.fact 53 (f := .glo "BadShape") rfl)
  g_BadRoll := He.glo_ok X N (c.fact 54 (f := .glo "BadRoll") rfl)
  g_BadOperator := He.glo_ok X N (c.fact 55 (f := .glo "BadOperator") rfl)
  g_BadSymbol := He.glo_ok X N (c.fact 56 (f := .glo "BadSymbol") rfl)
  g_BadStep := He.glo_ok X N (c.fact 57 (f := .glo "BadStep") rfl)
  g_BadPaper := He.glo_ok X N (c.fact 58 (f := .glo "BadPaper") rfl)
  g_BadName := He.glo_ok X N (c.fact 59 (f := .glo "BadName") rfl)
  g_BadScript := He.glo_ok X N (c.fact 60 (f := .glo "BadScript") rfl)
  g_Barred := He.glo_ok X N (c.fact 61 (f := .glo "Barred") rfl)
  g_Unlike := He.glo_ok X N (c.fact 62 (f := .glo "Unlike") rfl)
  g_HasResidue := He.glo_ok X N (c.fact 63 (f := .glo "HasResidue") rfl)
  g_NotKept := He.glo_ok X N (c.fact 64 (f := .glo "NotKept") rfl)
  g_TooMany := He.glo_ok X N (c.fact 65 (f := .glo "TooMany") rfl)
  g_NoSuch := He.glo_ok X N (c.fact 66 (f := .glo "NoSuch") rfl)
  g_Ended := He.glo_ok X N (c.fact 67 (f := .glo "Ended") rfl)
  i_MOST_TEXT := He.int_ok X N (c.fact 68 (f := .int "MOST_TEXT" (60000)) rfl)
  i_MOST_CELLS := He.int_ok X N (c.fact 69 (f := .int "MOST_CELLS" (30)) rfl)
  i_CHUNK := He.int_ok X N (c.fact 70 (f := .int "CHUNK" (1000)) rfl)
  i_MOST_SITE := He.int_ok X N (c.fact 71 (f := .int "MOST_SITE" (60)) rfl)
  z_FIGURES := He.str_ok X N (c.fact 72 (f := .str "FIGURES" "0123456789") rfl)
  b_LookupError := He.free_ok X N (c.fact 73 (f := .free "LookupError") rfl)
  b_RuntimeError := He.free_ok X N (c.fact 74 (f := .free "RuntimeError") rfl)
  b_ValueError := He.free_ok X N (c.fact 75 (f := .free "ValueError") rfl)
  b_abs := He.free_ok X N (c.fact 76 (f := .free "abs") rfl)
  b_bool := He.free_ok X N (c.fact 77 (f := .free "bool") rfl)
  b_enumerate := He.free_ok X N (c.fact 78 (f := .free "enumerate") rfl)
  b_int := He.free_ok X N (c.fact 79 (f := .free "int") rfl)
  b_isinstance := He.free_ok X N (c.fact 80 (f := .free "isinstance") rfl)
  b_len := He.free_ok X N (c.fact 81 (f := .free "len") rfl)
  b_list := He.free_ok X N (c.fact 82 (f := .free "list") rfl)
  b_max := He.free_ok X N (c.fact 83 (f := .free "max") rfl)
  b_min := He.free_ok X N (c.fact 84 (f := .free "min") rfl)
  b_range := He.free_ok X N (c.fact 85 (f := .free "range") rfl)
  b_sorted := He.free_ok X N (c.fact 86 (f := .free "sorted") rfl)
  b_str := He.free_ok X N (c.fact 87 (f := .free "str") rfl)
  b_sum := He.free_ok X N (c.fact 88 (f := .free "sum") rfl)
  b_tuple := He.free_ok X N (c.fact 89 (f := .free "tuple") rfl)
theorem exs_of {K : PySem.W.Frag} (h : ex K = true) : Exs K := by
  simp only [ex, ex_0, ex_1, ex_2, ex_3, ex_4, Bool.and_eq_true] at h
  obtain ⟨⟨o_BadShape, f_BadShape_at, i_BadShape_Refused, i_BadShape_BadNumber, i_BadShape_BadSum, i_BadShape_BadQuotient, i_BadShape_BadLandscape, i_BadShape_BadWell, i_BadShape_BadWall, i_BadShape_BadShape, i_BadShape_BadRoll, i_BadShape_BadOperator⟩, ⟨i_BadShape_BadSymbol, i_BadShape_BadStep, i_BadShape_BadPaper, i_BadShape_BadName, i_BadShape_BadScript, i_BadShape_Barred, i_BadShape_Unlike, i_BadShape_HasResidue, i_BadShape_NotKept, i_BadShape_TooMany, i_BadShape_NoSuch, i_BadShape_Ended⟩, ⟨i_BadShape_ValueError, i_BadShape_LookupError, i_BadShape_RuntimeError, x_BadShape_Refused, o_TooMany, f_TooMany_what, f_TooMany_count, i_TooMany_Refused, i_TooMany_BadNumber, i_TooMany_BadSum, i_TooMany_BadQuotient, i_TooMany_BadLandscape⟩, ⟨i_TooMany_BadWell, i_TooMany_BadWall, i_TooMany_BadShape, i_TooMany_BadRoll, i_TooMany_BadOperator, i_TooMany_BadSymbol, i_TooMany_BadStep, i_TooMany_BadPaper, i_TooMany_BadName, i_TooMany_BadScript, i_TooMany_Barred, i_TooMany_Unlike⟩, ⟨i_TooMany_HasResidue, i_TooMany_NotKept, i_TooMany_TooMany, i_TooMany_NoSuch, i_TooMany_Ended, i_TooMany_ValueError, i_TooMany_LookupError, i_TooMany_RuntimeError, x_TooMany_Refused⟩⟩ := h
  refine ⟨?_, He.eqO_ok f_BadShape_at, of_decide_eq_true x_BadShape_Refused, ?_, He.eqO_ok f_TooMany_what, He.eqO_ok f_TooMany_count, of_decide_eq_true x_TooMany_Refused⟩
  · exact ⟨LE.ownB_ok o_BadShape, (fun c hc => by
        simp only [allMarks, List.mem_cons, List.not_mem_nil, or_false] at hc
        rcases hc with rfl | rfl | rfl | rfl | rfl | rfl | rfl | rfl | rfl | rfl | rfl | rfl | rfl | rfl | rfl | rfl | rfl | rfl | rfl | rfl | rfl
        · exact i_BadShape_BadNumber
        · exact i_BadShape_BadSum
        · exact i_BadShape_BadQuotient
        · exact i_BadShape_BadLandscape
        · exact i_BadShape_BadWell
        · exact i_BadShape_BadWall
        · exact i_BadShape_BadShape
        · exact i_BadShape_BadRoll
        · exact i_BadShape_BadOperator
        · exact i_BadShape_BadSymbol
        · exact i_BadShape_BadStep
        · exact i_BadShape_BadPaper
        · exact i_BadShape_BadName
        · exact i_BadShape_BadScript
        · exact i_BadShape_Barred
        · exact i_BadShape_Unlike
        · exact i_BadShape_HasResidue
        · exact i_BadShape_NotKept
        · exact i_BadShape_TooMany
        · exact i_BadShape_NoSuch
        · exact i_BadShape_Ended), i_BadShape_Refused, i_BadShape_ValueError, i_BadShape_LookupError, i_BadShape_RuntimeError⟩
  · exact ⟨LE.ownB_ok o_TooMany, (fun c hc => by
        simp only [allMarks, List.mem_cons, List.not_mem_nil, or_false] at hc
        rcases hc with rfl | rfl | rfl | rfl | rfl | rfl | rfl | rfl | rfl | rfl | rfl | rfl | rfl | rfl | rfl | rfl | rfl | rfl | rfl | rfl | rfl
        · exact i_TooMany_BadNumber
        · exact i_TooMany_BadSum
        · exact i_TooMany_BadQuotient
        · exact i_TooMany_BadLandscape
        · exact i_TooMany_BadWell
        · exact i_TooMany_BadWall
        · exact i_TooMany_BadShape
        · exact i_TooMany_BadRoll
        · exact i_TooMany_BadOperator
        · exact i_TooMany_BadSymbol
        · exact i_TooMany_BadStep
        · exact i_TooMany_BadPaper
        · exact i_TooMany_BadName
        · exact i_TooMany_BadScript
        · exact i_TooMany_Barred
        · exact i_TooMany_Unlike
        · exact i_TooMany_HasResidue
        · exact i_TooMany_NotKept
        · exact i_TooMany_TooMany
        · exact i_TooMany_NoSuch
        · exact i_TooMany_Ended), i_TooMany_Refused, i_TooMany_ValueError, i_TooMany_LookupError, i_TooMany_RuntimeError⟩
theorem FaultOf.own {K : PySem.W.Frag} {D : Addr} {fs : List (Str × V)} {items : List V} (h : FaultOf K D fs items) : LE.Own K D := by
  cases h with
  | shape r _ _ => exact r.own
  | many r _ _ _ _ => exact r.own
section
variable {P : Program} {w : World} {K : PySem.W.Frag} {mg : Str → Option Value} {base : Heap}
theorem fo_read_shape (G : Glob K mg) {sp_rows_of : Sp} (h_rows_of : Has P w K mg base "rows_of" 5 ["thing"] sp_rows_of) {sp_ask_cells : Sp} (h_ask_cells : Has P w K mg base "ask_cells" 3 ["count"] sp_ask_cells) {fd : FuncData} (F : FunD K "read_shape" "read_shape" (defArgs s_read_shape) (defBody s_read_shape) (defScope s_read_shape) [] [] (He.ga K "read_shape") fd) {sp : Sp} (len : ∀ vs H Q E, sp vs H Q E → vs.length = 1)
    (rd : ∀ vs H Q E, sp vs H Q E → t_read_shape K sp_rows_of sp_ask_cells E { nx := fun _ H' => Q .non H', rt := Q } (start ["thing", "rows"] vs) H) : FnOk P w K mg base (L2N.CX P w) 6 (He.ga K "read_shape") fd ["thing"] sp := by
  have nd := (sc_read_shape).nd
  refine F.ok sc_read_shape len (fun cdv A outer s H vs Q E hr h => ⟨t_read_shape K sp_rows_of sp_ask_cells E, ?_, rd vs H Q E h⟩)
  have tk := L2N.takes_of (X := cxOf (L2N.CX P w) P w K mg base ["thing", "rows"] "read_shape" (defScope s_read_shape) (He.ga K "read_shape") cdv A outer s H E) (E := E) rfl rfl rfl rfl
  exact (pss_cons (ps_set (i := 1) nd rfl (by first | exact Or.inl rfl | exact Or.inr rfl) (pe_callU h_rows_of hr (by decide) (by rfl) (L2N.passes_call tk fun _ _ _ _ h => h) (pa_cons (pv 0) pa_nil)))
      (pss_cons (ps_expr (pe_callU h_ask_cells hr (by decide) (by rfl) (L2N.passes_call tk fun _ _ _ _ h => h) (pa_cons (pe_callB (U.cr_sum rfl) (by rfl) G.b_sum (by first | rfl | kernel_rfl) (pa_cons (pv 1) pa_nil)) pa_nil)))
      (pss_one (ps_ret (pv 1)))))
theorem fo_turned (G : Glob K mg) {sp_turn_rows : Sp} (h_turn_rows : Has P w K mg base "turn_rows" 1 ["rows"] sp_turn_rows) {sp_read_shape : Sp} (h_read_shape : Has P w K mg base "read_shape" 6 ["thing"] sp_read_shape) {fd : FuncData} (F : FunD K "turned" "turned" (defArgs s_turned) (defBody s_turned) (defScope s_turned) [] [] (He.ga K "turned") fd) {sp : Sp} (len : ∀ vs H Q E, sp vs H Q E → vs.length = 1)
    (rd : ∀ vs H Q E, sp vs H Q E → t_turned K sp_turn_rows sp_read_shape E { nx := fun _ H' => Q .non H', rt := Q } (start ["shape"] vs) H) : FnOk P w K mg base (L2N.CX P w) 7 (He.ga K "turned") fd ["shape"] sp := by
  have nd := (sc_turned).nd
  refine F.ok sc_turned len (fun cdv A outer s H vs Q E hr h => ⟨t_turned K sp_turn_rows sp_read_shape E, ?_, rd vs H Q E h⟩)
  have tk := L2N.takes_of (X := cxOf (L2N.CX P w) P w K mg base ["shape"] "turned" (defScope s_turned) (He.ga K "turned") cdv A outer s H E) (E := E) rfl rfl rfl rfl
  exact (pss_one (ps_ret (pe_callU h_turn_rows hr (by decide) (by rfl) (L2N.passes_call tk fun _ _ _ _ h => h) (pa_cons (pe_callU h_read_shape hr (by decide) (by rfl) (L2N.passes_call tk fun _ _ _ _ h => h) (pa_cons (pv 0) pa_nil)) pa_nil))))
theorem fo_falling (G : Glob K mg) {sp_rows_of : Sp} (h_rows_of : Has P w K mg base "rows_of" 5 ["thing"] sp_rows_of) {sp_ask_site : Sp} (h_ask_site : Has P w K mg base "ask_site" 3 ["site"] sp_ask_site) {sp_ask_cells : Sp} (h_ask_cells : Has P w K mg base "ask_cells" 3 ["count"] sp_ask_cells) {sp_site_falls : Sp} (h_site_falls : Has P w K mg base "site_falls" 2 ["rows", "site"] sp_site_falls) {fd : FuncData} (F : FunD K "falling" "falling" (defArgs s_falling) (defBody s_falling) (defScope s_falling) [] [] (He.ga K "falling") fd) {sp : Sp} (len : ∀ vs H Q E, sp vs H Q E → vs.length = 2)
    (rd : ∀ vs H Q E, sp vs H Q E → t_falling K sp_rows_of sp_ask_site sp_ask_cells sp_site_falls E { nx := fun _ H' => Q .non H', rt := Q } (start ["shape", "site", "rows"] vs) H) : FnOk P w K mg base (L2N.CX P w) 6 (He.ga K "falling") fd ["shape", "site"] sp := by
  have nd := (sc_falling).nd
  refine F.ok sc_falling len (fun cdv A outer s H vs Q E hr h => ⟨t_falling K sp_rows_of sp_ask_site sp_ask_cells sp_site_falls E, ?_, rd vs H Q E h⟩)
  have tk := L2N.takes_of (X := cxOf (L2N.CX P w) P w K mg base ["shape", "site", "rows"] "falling" (defScope s_falling) (He.ga K "falling") cdv A outer s H E) (E := E) rfl rfl rfl rfl
  exact (pss_cons (ps_set (i := 2) nd rfl (by first | exact Or.inl rfl | exact Or.inr rfl) (pe_callU h_rows_of hr (by decide) (by rfl) (L2N.passes_call tk fun _ _ _ _ h => h) (pa_cons (pv 0) pa_nil)))
      (pss_cons (ps_expr (pe_callU h_ask_site hr (by decide) (by rfl) (L2N.passes_call tk fun _ _ _ _ h => h) (pa_cons (pv 1) pa_nil)))
      (pss_cons (ps_expr (pe_callU h_ask_cells hr (by decide) (by rfl) (L2N.passes_call tk fun _ _ _ _ h => h) (pa_cons (pe_callB (U.cr_sum rfl) (by rfl) G.b_sum (by first | rfl | kernel_rfl) (pa_cons (pv 2) pa_nil)) pa_nil)))
      (pss_one (ps_ret (pe_callU h_site_falls hr (by decide) (by rfl) (L2N.passes_call tk fun _ _ _ _ h => h) (pa_cons (pv 2) (pa_cons (pv 1) pa_nil))))))))
theorem fo_gaps (G : Glob K mg) {sp_rows_of : Sp} (h_rows_of : Has P w K mg base "rows_of" 5 ["thing"] sp_rows_of) {sp_ask_site : Sp} (h_ask_site : Has P w K mg base "ask_site" 3 ["site"] sp_ask_site) {sp_ask_cells : Sp} (h_ask_cells : Has P w K mg base "ask_cells" 3 ["count"] sp_ask_cells) {sp_first_gaps : Sp} (h_first_gaps : Has P w K mg base "first_gaps" 1 ["rows", "many"] sp_first_gaps) {fd : FuncData} (F : FunD K "gaps" "gaps" (defArgs s_gaps) (defBody s_gaps) (defScope s_gaps) [] [] (He.ga K "gaps") fd) {sp : Sp} (len : ∀ vs H Q E, sp vs H Q E → vs.length = 2)
    (rd : ∀ vs H Q E, sp vs H Q E → t_gaps K sp_rows_of sp_ask_site sp_ask_cells sp_first_gaps E { nx := fun _ H' => Q .non H', rt := Q } (start ["shape", "low", "rows", "row", "site"] vs) H) : FnOk P w K mg base (L2N.CX P w) 6 (He.ga K "gaps") fd ["shape", "low"] sp := by
  have nd := (sc_gaps).nd
  refine F.ok sc_gaps len (fun cdv A outer s H vs Q E hr h => ⟨t_gaps K sp_rows_of sp_ask_site sp_ask_cells sp_first_gaps E, ?_, rd vs H Q E h⟩)
  have tk := L2N.takes_of (X := cxOf (L2N.CX P w) P w K mg base ["shape", "low", "rows", "row", "site"] "gaps" (defScope s_gaps) (He.ga K "gaps") cdv A outer s H E) (E := E) rfl rfl rfl rfl
  exact (pss_cons (ps_set (i := 2) nd rfl (by first | exact Or.inl rfl | exact Or.inr rfl) (pe_callU h_rows_of hr (by decide) (by rfl) (L2N.passes_call tk fun _ _ _ _ h => h) (pa_cons (pv 0) pa_nil)))
      (pss_cons (ps_expr (pe_callU h_ask_site hr (by decide) (by rfl) (L2N.passes_call tk fun _ _ _ _ h => h) (pa_cons (pv 1) pa_nil)))
      (pss_cons (ps_expr (pe_callU h_ask_cells hr (by decide) (by rfl) (L2N.passes_call tk fun _ _ _ _ h => h) (pa_cons (pe_callB (U.cr_sum rfl) (by rfl) G.b_sum (by first | rfl | kernel_rfl) (pa_cons (pv 2) pa_nil)) pa_nil)))
      (pss_cons (ps_set (i := 3) nd rfl (by first | exact Or.inl rfl | exact Or.inr rfl) (pe_callU h_first_gaps hr (by decide) (by rfl) (L2N.passes_call tk fun _ _ _ _ h => h) (pa_cons (pv 2) (pa_cons (pe_callB (U.cr_max rfl) (by rfl) G.b_max (by first | rfl | kernel_rfl) (pa_cons (pe_callB cr_len (by rfl) G.b_len (by first | rfl | kernel_rfl) (pa_cons (pv 2) pa_nil)) (pa_cons (pe_un un_neg (pv 1)) pa_nil))) pa_nil))))
      (pss_one (ps_ret (pe_lc (own := [("site", 4)]) rfl nd (pi_seq (pe_revL (pv 3))) (blkOk_by (own := [("site", 4)]) (by first | decide +kernel | rfl)) (fun _ _ _ _ _ => (pg_name (i := 4) nd rfl (by first | exact Or.inl rfl | exact Or.inr rfl) (by first | exact Or.inl rfl | exact Or.inr rfl))) (fun _ _ _ _ _ => (pts_one (pt_cmpR op_ge (pv 4) (pv 1) (by rfl)))) (fun _ _ _ _ _ => (pv 4)))))))))
theorem fo_hooks (G : Glob K mg) {sp_read_shape : Sp} (h_read_shape : Has P w K mg base "read_shape" 6 ["thing"] sp_read_shape) {sp_turn_rows : Sp} (h_turn_rows : Has P w K mg base "turn_rows" 1 ["rows"] sp_turn_rows) {fd : FuncData} (F : FunD K "hooks" "hooks" (defArgs s_hooks) (defBody s_hooks) (defScope s_hooks) [] [] (He.ga K "hooks") fd) {sp : Sp} (len : ∀ vs H Q E, sp vs H Q E → vs.length = 1)
    (rd : ∀ vs H Q E, sp vs H Q E → tT_hooks K sp_read_shape sp_turn_rows E { nx := fun _ H' => Q .non H', rt := Q } (start ["shape", "rows", "columns", "found", "i", "row", "j", "right", "below"] vs) H) : FnOk P w K mg base (L2N.CX P w) 7 (He.ga K "hooks") fd ["shape"] sp := by
  have nd := (scT_hooks).nd
  refine F.ok scT_hooks len (fun cdv A outer s H vs Q E hr h => ⟨tT_hooks K sp_read_shape sp_turn_rows E, ?_, rd vs H Q E h⟩)
  have tk := L2N.takes_of (X := cxOf (L2N.CX P w) P w K mg base ["shape", "rows", "columns", "found", "i", "row", "j", "right", "below"] "hooks" (defScope s_hooks) (He.ga K "hooks") cdv A outer s H E) (E := E) rfl rfl rfl rfl
  exact (pss_cons (ps_set (i := 1) nd rfl (by first | exact Or.inl rfl | exact Or.inr rfl) (pe_callU h_read_shape hr (by decide) (by rfl) (L2N.passes_call tk fun _ _ _ _ h => h) (pa_cons (pv 0) pa_nil)))
      (pss_cons (ps_set (i := 2) nd rfl (by first | exact Or.inl rfl | exact Or.inr rfl) (pe_callU h_turn_rows hr (by decide) (by rfl) (L2N.passes_call tk fun _ _ _ _ h => h) (pa_cons (pv 1) pa_nil)))
      (pss_cons (ps_set (i := 3) nd rfl (by first | exact Or.inl rfl | exact Or.inr rfl) (pe_lst pa_nil))
      (pss_cons (ps_for (passes_of rfl) rfl (pi_enumT (by rfl) G.b_enumerate (pa_cons (pv 1) pa_nil)) (pg_tup rfl (pgs_cons (pg_name (i := 4) nd rfl (by first | exact Or.inl rfl | exact Or.inr rfl) (by first | exact Or.inl rfl | exact Or.inr rfl)) (pgs_cons (pg_name (i := 5) nd rfl (by first | exact Or.inl rfl | exact Or.inr rfl) (by first | exact Or.inl rfl | exact Or.inr rfl)) pgs_nil))) (pss_one (ps_for (passes_of rfl) rfl (pi_range1 (by rfl) G.b_range (pa_cons (pv 5) pa_nil)) (pg_name (i := 6) nd rfl (by first | exact Or.inl rfl | exact Or.inr rfl) (by first | exact Or.inl rfl | exact Or.inr rfl)) (pss_cons (ps_set (i := 7) nd rfl (by first | exact Or.inl rfl | exact Or.inr rfl) (pe_op op_sub (pe_op op_sub (pv 5) (pv 6)) pe_int))
      (pss_cons (ps_set (i := 8) nd rfl (by first | exact Or.inl rfl | exact Or.inr rfl) (pe_op op_sub (pe_op op_sub (pe_ix ix_u (pv 2) (pv 6) (fun _ _ => rfl)) (pv 4)) pe_int))
      (pss_one (ps_expr (pe_bm PySem.F.plainAttrs_list PySem.F.slot_list_append PySem.F.type_list_append mt_append (pv 3) (pa_cons (pe_op op_uAdd (pe_op op_uAdd (pv 7) (pv 8)) pe_int) pa_nil)))))))))
      (pss_one (ps_ret (pe_callB cr_sortedI (by rfl) G.b_sorted (by first | rfl | kernel_rfl) (pa_cons (pv 3) pa_nil))))))))
theorem fo_law (G : Glob K mg) {sp__law_bag : Sp} (h__law_bag : Has P w K mg base "_law_bag" 1 ["script"] sp__law_bag) {sp__law_stair : Sp} (h__law_stair : Has P w K mg base "_law_stair" 2 ["jar", "most"] sp__law_stair) {sp__law_draw : Sp} (h__law_draw : Has P w K mg base "_law_draw" 1 ["jar", "top"] sp__law_draw) {sp__law_parts_told : Sp} (h__law_parts_told : Has P w K mg base "_law_parts_told" 8 ["jar", "lam"] sp__law_parts_told) {sp__law_sites_told : Sp} (h__law_sites_told : Has P w K mg base "_law_sites_told" 7 ["jar", "lam"] sp__law_sites_told) {sp__law_faults_told : Sp} (h__law_faults_told : Has P w K mg base "_law_faults_told" 12 ["jar", "lam"] sp__law_faults_told) {sp__law_like : Sp} (h__law_like : Has P w K mg base "_law_like" 5 ["told", "due"] sp__law_like) {sp_read_shape : Sp} (h_read_shape : Has P w K mg base "read_shape" 6 ["thing"] sp_read_shape) {sp_gaps : Sp} (h_gaps : Has P w K mg base "gaps" 6 ["shape", "low"] sp_gaps) {fd : FuncData} (F : FunD K "law" "law" (defArgs s_law) (defBody s_law) (defScope s_law) [] [] (He.ga K "law") fd) {sp : Sp} (len : ∀ vs H Q E, sp vs H Q E → vs.length = 1)
    (rd : ∀ vs H Q E, sp vs H Q E → t_law K sp__law_bag sp__law_stair sp__law_draw sp__law_parts_told sp__law_sites_told sp__law_faults_told sp__law_like sp_read_shape sp_gaps { nx := fun _ H' => Q .non H', rt := Q } (start ["script", "jar", "turn", "lam"] vs) H) : FnOk P w K mg base (L2N.CX P w) 13 (He.ga K "law") fd ["script"] sp := by
  have nd := (sc_law).nd
  refine F.ok sc_law len (fun cdv A outer s H vs Q E hr h => ⟨t_law K sp__law_bag sp__law_stair sp__law_draw sp__law_parts_told sp__law_sites_told sp__law_faults_told sp__law_like sp_read_shape sp_gaps, ?_, rd vs H Q E h⟩)
  refine PSs.nox ?_
  exact (pss_cons (ps_set (i := 1) nd rfl (by first | exact Or.inl rfl | exact Or.inr rfl) (pe_callU h__law_bag hr (by decide) (by rfl) passN (pa_cons (pv 0) pa_nil)))
      (pss_cons (ps_for PassesOwn.never rfl (pi_range1 (by rfl) G.b_range (pa_cons pe_int pa_nil)) (pg_name (i := 2) nd rfl (by first | exact Or.inl rfl | exact Or.inr rfl) (by first | exact Or.inl rfl | exact Or.inr rfl)) (pss_cons (ps_set (i := 3) nd rfl (by first | exact Or.inl rfl | exact Or.inr rfl) (pe_callU h__law_stair hr (by decide) (by rfl) passN (pa_cons (pv 1) (pa_cons (pe_ifExp (pt_cmpR (op_uEq hr.units) (pe_callU h__law_draw hr (by decide) (by rfl) passN (pa_cons (pv 1) (pa_cons pe_int pa_nil))) pe_int (by rfl)) pe_int pe_int) pa_nil))))
      (pss_one (ps_if ((pw_or (pt_not (pt_val (pe_callU h__law_parts_told hr (by decide) (by rfl) passN (pa_cons (pv 1) (pa_cons (pv 3) pa_nil))))) (pw_or (pt_not (pt_val (pe_callU h__law_sites_told hr (by decide) (by rfl) passN (pa_cons (pv 1) (pa_cons (pv 3) pa_nil))))) (pw_or1 (pt_not (pt_val (pe_callU h__law_faults_told hr (by decide) (by rfl) passN (pa_cons (pv 1) (pa_cons (pv 3) pa_nil))))))))).pt (pss_one (ps_ret pe_bl)) pss_nil))))
      (pss_one (ps_ret (pe_and (pe_callU h__law_like hr (by decide) (by rfl) passN (pa_cons (pe_callU h_read_shape hr (by decide) (by rfl) passN (pa_cons pe_str pa_nil)) (pa_cons (pe_tup pa_nil) pa_nil))) (pe_one (pe_callU h__law_like hr (by decide) (by rfl) passN (pa_cons (pe_callU h_gaps hr (by decide) (by rfl) passN (pa_cons (pe_lst pa_nil) (pa_cons (pe_op op_sub pe_int pe_int) pa_nil))) (pa_cons (pe_lst (pa_cons (pe_op op_sub pe_int pe_int) (pa_cons (pe_op op_sub pe_int pe_int) (pa_cons (pe_op op_sub pe_int pe_int) pa_nil)))) pa_nil)))))))))
theorem init_BadShape (O : LE.Own K (He.ga K "BadShape")) (no : PySem.W.findIn K (.ref (He.ga K "BadShape")) "at" = some none) {fd : FuncData} (F : FunD K "__init__" "BadShape.__init__" (defArgs s_BadShape__init) (defBody s_BadShape__init) (defScope s_BadShape__init) [] [] (He.ma K (He.ga K "BadShape") "__init__") fd) :
    FnOk P w K mg base (L2N.CX P w) 1 (He.ma K (He.ga K "BadShape") "__init__") fd ["self", "at"] (spI (He.ga K "BadShape") ["at"]) ∧ Binds K fd ["self", "at"] [] :=
  ⟨ok_init1 F ⟨rfl, rfl, rfl, by decide +kernel, rfl, by decide +kernel, by decide +kernel⟩ O no rfl rfl rfl rfl (fun _ _ => rfl), F.bindsN fun _ _ _ _ _ _ us hl => match us, hl with | [_, _], _ => rfl⟩
theorem init_TooMany (O : LE.Own K (He.ga K "TooMany")) (no : PySem.W.findIn K (.ref (He.ga K "TooMany")) "what" = some none) (no2 : PySem.W.findIn K (.ref (He.ga K "TooMany")) "count" = some none) {fd : FuncData} (F : FunD K "__init__" "TooMany.__init__" (defArgs s_TooMany__init) (defBody s_TooMany__init) (defScope s_TooMany__init) [] [] (He.ma K (He.ga K "TooMany") "__init__") fd) :
    FnOk P w K mg base (L2N.CX P w) 1 (He.ma K (He.ga K "TooMany") "__init__") fd ["self", "what", "count"] (spI (He.ga K "TooMany") ["what", "count"]) ∧ Binds K fd ["self", "what", "count"] [] :=
  ⟨ok_init2 F ⟨rfl, rfl, rfl, by decide +kernel, rfl, by decide +kernel, by decide +kernel⟩ O no no2 rfl rfl rfl rfl rfl rfl rfl (fun _ _ => rfl) (fun _ _ => rfl), F.bindsN fun _ _ _ _ _ _ us hl => match us, hl with | [_, _, _], _ => rfl⟩
theorem like_up (G : Glob K mg) {fd : FuncData} (F : FunD K "_law_like" "_law_like" (defArgs s__law_like) (defBody s__law_like) (defScope s__law_like) [] [] (He.ga K "_law_like") fd) (hw : Has P w K mg base "_law_whole" 1 ["told"] (spIsWhole K)) : ∀ n, Has P w K mg base "_law_like" (n + 1) ["told", "due"] (spLikeN K (TT K) n)
  | 0 => ⟨G.g__law_like, F.kp, fd, F.ok sc__law_like (fun _ _ _ _ z => z.elim) (fun _ _ _ _ _ _ _ _ _ z => z.elim), F.bindsN fun _ _ _ _ _ _ us hl => match us, hl with | [_, _], _ => rfl⟩
  | n + 1 => fn__law_like G (lv := n + 1) (by omega) hw (like_up G F hw n) F (fun vs H Q E h => by obtain ⟨_, _, _, rfl, _⟩ := h; rfl) (rd_law_like n)
theorem chain (G : Glob K mg) (c : He.SaysD fa fn K) (hex : ex K = true) (T2 : TabB base mg (He.codeOf K ("_law_faults_told", none)) (P2 K)) {fd : FuncData} (F : FunD K "law" "law" (defArgs s_law) (defBody s_law) (defScope s_law) [] [] (He.ga K "law") fd) :
    FnOk P w K mg base (L2N.CX P w) 13 (He.ga K "law") fd ["script"] (spLaw K) := by
  have X := exs_of hex
  obtain ⟨fd_ask_text, F_ask_text⟩ := c.def_ 0 (d := d_ask_text) rfl
  obtain ⟨fd_ask_cells, F_ask_cells⟩ := c.def_ 1 (d := d_ask_cells) rfl
  obtain ⟨fd_is_digits, F_is_digits⟩ := c.def_ 3 (d := d_is_digits) rfl
  obtain ⟨fd_whole_of, F_whole_of⟩ := c.def_ 4 (d := d_whole_of) rfl
  obtain ⟨fd_is_whole, F_is_whole⟩ := c.def_ 5 (d := d_is_whole) rfl
  obtain ⟨fd_ask_row_texts, F_ask_row_texts⟩ := c.def_ 6 (d := d_ask_row_texts) rfl
  obtain ⟨fd_ask_site, F_ask_site⟩ := c.def_ 7 (d := d_ask_site) rfl
  obtain ⟨fd_word_worth, F_word_worth⟩ := c.def_ 8 (d := d_word_worth) rfl
  obtain ⟨fd_wrong_row, F_wrong_row⟩ := c.def_ 9 (d := d_wrong_row) rfl
  obtain ⟨fd_rows_of, F_rows_of⟩ := c.def_ 10 (d := d_rows_of) rfl
  obtain ⟨fd_first_gaps, F_first_gaps⟩ := c.def_ 11 (d := d_first_gaps) rfl
  obtain ⟨fd_rows_of_gaps, F_rows_of_gaps⟩ := c.def_ 12 (d := d_rows_of_gaps) rfl
  obtain ⟨fd_site_falls, F_site_falls⟩ := c.def_ 13 (d := d_site_falls) rfl
  obtain ⟨fd_turn_rows, F_turn_rows⟩ := c.def_ 14 (d := d_turn_rows) rfl
  obtain ⟨fd_read_shape, F_read_shape⟩ := c.def_ 15 (d := d_read_shape) rfl
  obtain ⟨fd_falling, F_falling⟩ := c.def_ 16 (d := d_falling) rfl
  obtain ⟨fd_gaps, F_gaps⟩ := c.def_ 17 (d := d_gaps) rfl
  obtain ⟨fd_turned, F_turned⟩ := c.def_ 18 (d := d_turned) rfl
  obtain ⟨fd_hooks, F_hooks⟩ := c.def_ 19 (d := d_hooks) rfl
  obtain ⟨fd_core, F_core⟩ := c.def_ 20 (d := d_core) rfl
  obtain ⟨fd__law_bag, F__law_bag⟩ := c.def_ 21 (d := d__law_bag) rfl
  obtain ⟨fd__law_draw, F__law_draw⟩ := c.def_ 22 (d := d__law_draw) rfl
  obtain ⟨fd__law_pick, F__law_pick⟩ := c.def_ 23 (d := d__law_pick) rfl
  obtain ⟨fd__law_reach, F__law_reach⟩ := c.def_ 24 (d := d__law_reach) rfl
  obtain ⟨fd__law_whole, F__law_whole⟩ := c.def_ 25 (d := d__law_whole) rfl
  obtain ⟨fd__law_like, F__law_like⟩ := c.def_ 26 (d := d__law_like) rfl
  obtain ⟨fd__law_marks, F__law_marks⟩ := c.def_ 27 (d := d__law_marks) rfl
  obtain ⟨fd__law_fault, F__law_fault⟩ := c.def_ 28 (d := d__law_fault) rfl
  obtain ⟨fd__law_tried, F__law_tried⟩ := c.def_ 29 (d := d__law_tried) rfl
  obtain ⟨fd__law_refuses, F__law_refuses⟩ := c.def_ 30 (d := d__law_refuses) rfl
  obtain ⟨fd__law_cells_of, F__law_cells_of⟩ := c.def_ 31 (d := d__law_cells_of) rfl
  obtain ⟨fd__law_columns, F__law_columns⟩ := c.def_ 32 (d := d__law_columns) rfl
  obtain ⟨fd__law_cleaned, F__law_cleaned⟩ := c.def_ 33 (d := d__law_cleaned) rfl
  obtain ⟨fd__law_strips, F__law_strips⟩ := c.def_ 34 (d := d__law_strips) rfl
  obtain ⟨fd__law_is_gap, F__law_is_gap⟩ := c.def_ 35 (d := d__law_is_gap) rfl
  obtain ⟨fd__law_stair, F__law_stair⟩ := c.def_ 36 (d := d__law_stair) rfl
  obtain ⟨fd__law_stair_in, F__law_stair_in⟩ := c.def_ 37 (d := d__law_stair_in) rfl
  obtain ⟨fd__law_bent_stair, F__law_bent_stair⟩ := c.def_ 38 (d := d__law_bent_stair) rfl
  obtain ⟨fd__law_spot, F__law_spot⟩ := c.def_ 39 (d := d__law_spot) rfl
  obtain ⟨fd__law_core_of, F__law_core_of⟩ := c.def_ 40 (d := d__law_core_of) rfl
  obtain ⟨fd__law_hooks_walked, F__law_hooks_walked⟩ := c.def_ 41 (d := d__law_hooks_walked) rfl
  obtain ⟨fd__law_parts_told, F__law_parts_told⟩ := c.def_ 42 (d := d__law_parts_told) rfl
  obtain ⟨fd__law_sites_told, F__law_sites_told⟩ := c.def_ 43 (d := d__law_sites_told) rfl
  obtain ⟨fd__law_faults_told, F__law_faults_told⟩ := c.def_ 44 (d := d__law_faults_told) rfl
  obtain ⟨fd_BadShape__init, F_BadShape__init⟩ := c.def_ 46 (d := d_BadShape__init) rfl
  obtain ⟨fd_TooMany__init, F_TooMany__init⟩ := c.def_ 47 (d := d_TooMany__init) rfl
  have O_BadShape : LE.Own K (He.ga K "BadShape") := X.bs.own
  have O_TooMany : LE.Own K (He.ga K "TooMany") := X.tm.own
  obtain ⟨I_BadShape, J_BadShape⟩ := init_BadShape (P := P) (w := w) (mg := mg) (base := base) O_BadShape X.bsA F_BadShape__init
  obtain ⟨I_TooMany, J_TooMany⟩ := init_TooMany (P := P) (w := w) (mg := mg) (base := base) O_TooMany X.tmW X.tmC F_TooMany__init
  have h_ask_text : Has P w K mg base "ask_text" 3 ["count"] (spAskText K) := fn_ask_text G O_TooMany I_TooMany J_TooMany F_ask_text (fun vs H Q E h => by obtain ⟨_, rfl, _⟩ := h; rfl) rd_ask_text
  have h_ask_cells : Has P w K mg base "ask_cells" 3 ["count"] (spAskCells K (TT K)) := fn_ask_cells G O_TooMany I_TooMany J_TooMany F_ask_cells (fun vs H Q E h => by obtain ⟨_, rfl, _⟩ := h; rfl) rd_ask_cells
  have h_is_digits : Has P w K mg base "is_digits" 1 ["text"] (spIsDigits) := fn_is_digits G  F_is_digits (fun vs H Q E h => by obtain ⟨_, rfl, _⟩ := h; rfl) rd_is_digits
  have h_whole_of : Has P w K mg base "whole_of" 1 ["text"] (spWholeOf) := fn_whole_of G  F_whole_of (fun vs H Q E h => by obtain ⟨_, _, rfl, _⟩ := h; rfl) rd_whole_of
  have h_is_whole : Has P w K mg base "is_whole" 1 ["thing"] (spIsWhole K) := fn_is_whole G  F_is_whole (fun vs H Q E h => by obtain ⟨_, rfl, _⟩ := h; rfl) rd_is_whole
  have h_ask_row_texts : Has P w K mg base "ask_row_texts" 4 ["things"] (spAskRowTexts K (TT K)) := fn_ask_row_texts G (Has_mono h_ask_text (by decide)) F_ask_row_texts (fun vs H Q E h => by obtain ⟨_, _, rfl, _⟩ := h; rfl) rd_ask_row_texts
  have h_ask_site : Has P w K mg base "ask_site" 3 ["site"] (spAskSite K (TT K)) := fn_ask_site G O_TooMany I_TooMany J_TooMany F_ask_site (fun vs H Q E h => by obtain ⟨_, rfl, _⟩ := h; rfl) rd_ask_site
  have h_word_worth : Has P w K mg base "word_worth" 2 ["word"] (spWordWorth) := fn_word_worth G (Has_mono h_is_digits (by decide)) (Has_mono h_whole_of (by decide)) F_word_worth (fun vs H Q E h => by obtain ⟨_, rfl, _⟩ := h; rfl) rd_word_worth
  have h_wrong_row : Has P w K mg base "wrong_row" 2 ["rows"] (spWrongRow K (TT K)) := fn_wrong_row G (Has_mono h_is_whole (by decide)) F_wrong_row (fun vs H Q E h => by obtain ⟨_, _, rfl, _⟩ := h; rfl) rd_wrong_row
  have h_rows_of : Has P w K mg base "rows_of" 5 ["thing"] (spRowsOf K (TT K)) := fn_rows_of G (Has_mono h_ask_text (by decide)) (Has_mono h_word_worth (by decide)) (Has_mono h_ask_row_texts (by decide)) (Has_mono h_wrong_row (by decide)) O_BadShape I_BadShape J_BadShape F_rows_of (fun vs H Q E h => by obtain ⟨_, _, rfl, _⟩ := h; rfl) rd_rows_of
  have h_first_gaps : Has P w K mg base "first_gaps" 1 ["rows", "many"] (spFirstGaps K (TT K)) := fn_first_gaps G  F_first_gaps (fun vs H Q E h => by obtain ⟨_, _, _, rfl, _⟩ := h; rfl) rd_first_gaps
  have h_rows_of_gaps : Has P w K mg base "rows_of_gaps" 1 ["row"] (spRowsOfGaps K (TT K)) := fn_rows_of_gaps G  F_rows_of_gaps (fun vs H Q E h => by obtain ⟨_, _, rfl, _⟩ := h; rfl) rd_rows_of_gaps
  have h_site_falls : Has P w K mg base "site_falls" 2 ["rows", "site"] (spSiteFalls K (TT K)) := fn_site_falls G (Has_mono h_first_gaps (by decide)) F_site_falls (fun vs H Q E h => by obtain ⟨_, _, _, rfl, _⟩ := h; rfl) rd_site_falls
  have h_turn_rows : Has P w K mg base "turn_rows" 1 ["rows"] (spColumns K (TT K)) := fn_turn_rows G  F_turn_rows (fun vs H Q E h => by obtain ⟨_, _, rfl, _⟩ := h; rfl) rd_turn_rows
  have h_read_shape : Has P w K mg base "read_shape" 6 ["thing"] (spReadShape K (TT K)) := fn_read_shape G (Has_mono h_rows_of (by decide)) (Has_mono h_ask_cells (by decide)) F_read_shape (fun vs H Q E h => by obtain ⟨_, _, rfl, _⟩ := h; rfl) rd_read_shape
  have k_read_shape_thing : HasK0 P w K mg base "read_shape" 6 ["thing"] ["thing"] (fun zs => zs) (fun zs => zs) (spReadShape K (TT K)) := ⟨G.g_read_shape, F_read_shape.kp, fd_read_shape, fo_read_shape G (Has_mono h_rows_of (by decide)) (Has_mono h_ask_cells (by decide)) F_read_shape (fun vs H Q E h => by obtain ⟨_, _, rfl, _⟩ := h; rfl) rd_read_shape, kbn0_of (gW := (fun zs => zs)) (gV := (fun zs => zs)) F_read_shape (fun _ _ _ _ _ _ ws h => match ws, h with | [_], _ => rfl) (fun r => r)⟩
  have h_falling : Has P w K mg base "falling" 6 ["shape", "site"] (spFalling K (TT K)) := fn_falling G (Has_mono h_rows_of (by decide)) (Has_mono h_ask_site (by decide)) (Has_mono h_ask_cells (by decide)) (Has_mono h_site_falls (by decide)) F_falling (fun vs H Q E h => by obtain ⟨_, _, _, rfl, _⟩ := h; rfl) rd_falling
  have k_falling_site_shape : HasK0 P w K mg base "falling" 6 ["shape", "site"] ["site", "shape"] List.reverse List.reverse (spFalling K (TT K)) := ⟨G.g_falling, F_falling.kp, fd_falling, fo_falling G (Has_mono h_rows_of (by decide)) (Has_mono h_ask_site (by decide)) (Has_mono h_ask_cells (by decide)) (Has_mono h_site_falls (by decide)) F_falling (fun vs H Q E h => by obtain ⟨_, _, _, rfl, _⟩ := h; rfl) rd_falling, kbn0_of (gW := List.reverse) (gV := List.reverse) F_falling (fun _ _ _ _ _ _ ws h => match ws, h with | [_, _], _ => rfl) (fun r => r.reverse)⟩
  have h_gaps : Has P w K mg base "gaps" 6 ["shape", "low"] (spGaps K (TT K)) := fn_gaps G (Has_mono h_rows_of (by decide)) (Has_mono h_ask_site (by decide)) (Has_mono h_ask_cells (by decide)) (Has_mono h_first_gaps (by decide)) F_gaps (fun vs H Q E h => by obtain ⟨_, _, _, rfl, _⟩ := h; rfl) rd_gaps
  have k_gaps_low_shape : HasK0 P w K mg base "gaps" 6 ["shape", "low"] ["low", "shape"] List.reverse List.reverse (spGaps K (TT K)) := ⟨G.g_gaps, F_gaps.kp, fd_gaps, fo_gaps G (Has_mono h_rows_of (by decide)) (Has_mono h_ask_site (by decide)) (Has_mono h_ask_cells (by decide)) (Has_mono h_first_gaps (by decide)) F_gaps (fun vs H Q E h => by obtain ⟨_, _, _, rfl, _⟩ := h; rfl) rd_gaps, kbn0_of (gW := List.reverse) (gV := List.reverse) F_gaps (fun _ _ _ _ _ _ ws h => match ws, h with | [_, _], _ => rfl) (fun r => r.reverse)⟩
  have h_turned : Has P w K mg base "turned" 7 ["shape"] (spTurned K (TT K)) := fn_turned G (Has_mono h_turn_rows (by decide)) (Has_mono h_read_shape (by decide)) F_turned (fun vs H Q E h => by obtain ⟨_, _, rfl, _⟩ := h; rfl) rd_turned
  have k_turned_shape : HasK0 P w K mg base "turned" 7 ["shape"] ["shape"] (fun zs => zs) (fun zs => zs) (spTurned K (TT K)) := ⟨G.g_turned, F_turned.kp, fd_turned, fo_turned G (Has_mono h_turn_rows (by decide)) (Has_mono h_read_shape (by decide)) F_turned (fun vs H Q E h => by obtain ⟨_, _, rfl, _⟩ := h; rfl) rd_turned, kbn0_of (gW := (fun zs => zs)) (gV := (fun zs => zs)) F_turned (fun _ _ _ _ _ _ ws h => match ws, h with | [_], _ => rfl) (fun r => r)⟩
  have h_hooks : Has P w K mg base "hooks" 7 ["shape"] (spHooksP K (TT K)) := fnT_hooks G (Has_mono h_read_shape (by decide)) (Has_mono h_turn_rows (by decide)) F_hooks (fun vs H Q E h => by obtain ⟨_, _, rfl, _⟩ := h; rfl) rd_hooks
  have k_hooks_shape : HasK0 P w K mg base "hooks" 7 ["shape"] ["shape"] (fun zs => zs) (fun zs => zs) (spHooksP K (TT K)) := ⟨G.g_hooks, F_hooks.kp, fd_hooks, fo_hooks G (Has_mono h_read_shape (by decide)) (Has_mono h_turn_rows (by decide)) F_hooks (fun vs H Q E h => by obtain ⟨_, _, rfl, _⟩ := h; rfl) rd_hooks, kbn0_of (gW := (fun zs => zs)) (gV := (fun zs => zs)) F_hooks (fun _ _ _ _ _ _ ws h => match ws, h with | [_], _ => rfl) (fun r => r)⟩
  have h_core : Has P w K mg base "core" 7 ["shape"] (spCore K (TT K)) := fn_core G (Has_mono h_read_shape (by decide)) (Has_mono h_first_gaps (by decide)) (Has_mono h_rows_of_gaps (by decide)) F_core (fun vs H Q E h => by obtain ⟨_, _, rfl, _⟩ := h; rfl) rd_core
  have hl__law_bag : Has P w K mg base "_law_bag" 1 ["script"] (spBagL K) := fn__law_bag G  F__law_bag (fun vs H Q E h => by obtain ⟨_, _, rfl, _⟩ := h; rfl) rd_law_bag
  have h__law_bag : Has P w K mg base "_law_bag" 1 ["script"] (spBag K (TT K)) := hl__law_bag.bag (fun vs H Q E h => by obtain ⟨_, _, rfl, _⟩ := h; rfl) bag_up
  have hl__law_draw : Has P w K mg base "_law_draw" 1 ["jar", "top"] (spDrawL K) := fn__law_draw G  F__law_draw (fun vs H Q E h => by obtain ⟨_, _, _, _, _, _, rfl, _⟩ := h; rfl) rd_law_draw
  have h__law_draw : Has P w K mg base "_law_draw" 1 ["jar", "top"] (spDraw K) := hl__law_draw.jar (fun vs H Q E h => by obtain ⟨_, _, rfl, _⟩ := h; rfl) draw_up
  have h__law_pick : Has P w K mg base "_law_pick" 2 ["jar", "menu"] (spPick K) := fn__law_pick G (Has_mono h__law_draw (by decide)) F__law_pick (fun vs H Q E h => by obtain ⟨_, _, _, rfl, _⟩ := h; rfl) rd_law_pick
  have h__law_reach : Has P w K mg base "_law_reach" 2 ["jar", "least", "most"] (spReach K) := fn__law_reach G (Has_mono h__law_draw (by decide)) F__law_reach (fun vs H Q E h => by obtain ⟨_, _, _, rfl, _⟩ := h; rfl) rd_law_reach
  have h__law_whole : Has P w K mg base "_law_whole" 1 ["told"] (spIsWhole K) := fn__law_whole G  F__law_whole (fun vs H Q E h => by obtain ⟨_, rfl, _⟩ := h; rfl) rd_law_whole
  have h__law_like := like_up (P := P) (w := w) (base := base) G F__law_like h__law_whole 4
  have h__law_marks : HasE P w K mg base "_law_marks" 1 ["e"] (spMarks K (TT K)) := fn__law_marks G  F__law_marks (fun a c d vs H Q E h => by obtain ⟨rfl, _⟩ := h; rfl) (fun a c d vs H Q E h => by obtain ⟨_, D, _, _, _, e, O, _⟩ := h; exact ⟨D, e, O⟩) (fun a D d => rd_law_marks a D d)
  have h__law_fault : HasE P w K mg base "_law_fault" 2 ["e"] (spFault K (TT K)) := fn__law_fault G h__law_marks F__law_fault (fun a c d vs H Q E h => by obtain ⟨rfl, _⟩ := h; rfl) (fun a c d vs H Q E h => by obtain ⟨_, D, _, _, _, e, _, _, O, _⟩ := h; exact ⟨D, e, O.own⟩) (fun a D d => rd_law_fault a D d)
  have h__law_tried := fn__law_tried (k := 8) (T := TT K) (P := P) (w := w) (mg := mg) (base := base) G (by decide) h__law_fault F__law_tried
  have h__law_refuses : Has P w K mg base "_law_refuses" 10 ["call", "parts"] (spRefuses P w K mg base (TT K) 8) := fn__law_refuses G (Has_mono h__law_like (by decide)) (Has_mono h__law_tried (by decide)) F__law_refuses (fun vs H Q E h => by obtain ⟨_, _, _, _, _, rfl, _⟩ := h; rfl) rd_law_refuses
  have h__law_cells_of : Has P w K mg base "_law_cells_of" 1 ["lam"] (spCells K (TT K)) := fn__law_cells_of G  F__law_cells_of (fun vs H Q E h => by obtain ⟨_, _, rfl, _⟩ := h; rfl) rd_law_cells_of
  have h__law_columns : Has P w K mg base "_law_columns" 1 ["lam"] (spColumns K (TT K)) := fn__law_columns G  F__law_columns (fun vs H Q E h => by obtain ⟨_, _, rfl, _⟩ := h; rfl) rd_law_columns
  have h__law_cleaned : Has P w K mg base "_law_cleaned" 1 ["rows"] (spCleaned K (TT K)) := fn__law_cleaned G  F__law_cleaned (fun vs H Q E h => by obtain ⟨_, _, rfl, _⟩ := h; rfl) rd_law_cleaned
  have h__law_strips : Has P w K mg base "_law_strips" 2 ["lam"] (spStrips K (TT K)) := fn__law_strips G (Has_mono h__law_cleaned (by decide)) F__law_strips (fun vs H Q E h => by obtain ⟨_, _, rfl, _⟩ := h; rfl) rd_law_strips
  have h__law_is_gap : Has P w K mg base "_law_is_gap" 1 ["lam", "n"] (spIsGap K (TT K)) := fn__law_is_gap G  F__law_is_gap (fun vs H Q E h => by obtain ⟨_, _, _, rfl, _⟩ := h; rfl) rd_law_is_gap
  have h__law_stair : Has P w K mg base "_law_stair" 2 ["jar", "most"] (spStair K (TT K)) := fn__law_stair G (Has_mono h__law_draw (by decide)) F__law_stair (fun vs H Q E h => by obtain ⟨_, _, rfl, _⟩ := h; rfl) rd_law_stair
  have h__law_stair_in : Has P w K mg base "_law_stair_in" 2 ["jar", "lam"] (spStairIn K (TT K)) := fn__law_stair_in G (Has_mono h__law_draw (by decide)) F__law_stair_in (fun vs H Q E h => by obtain ⟨_, _, _, rfl, _⟩ := h; rfl) rd_law_stair_in
  have h__law_bent_stair : Has P w K mg base "_law_bent_stair" 3 ["jar", "lam"] (spBent K (TT K)) := fn__law_bent_stair G (Has_mono h__law_draw (by decide)) (Has_mono h__law_pick (by decide)) F__law_bent_stair (fun vs H Q E h => by obtain ⟨_, _, _, rfl, _⟩ := h; rfl) rd_law_bent_stair
  have h__law_spot : Has P w K mg base "_law_spot" 3 ["jar", "lam"] (spSpot K) := fn__law_spot G (Has_mono h__law_draw (by decide)) (Has_mono h__law_reach (by decide)) F__law_spot (fun vs H Q E h => by obtain ⟨_, _, _, rfl, _⟩ := h; rfl) rd_law_spot
  have h__law_core_of : Has P w K mg base "_law_core_of" 3 ["jar", "lam"] (spCoreOf K (TT K)) := fn__law_core_of G (Has_mono h__law_strips (by decide)) (Has_mono h__law_pick (by decide)) F__law_core_of (fun vs H Q E h => by obtain ⟨_, _, _, rfl, _⟩ := h; rfl) (rd_law_core_of mathC)
  have h__law_hooks_walked : Has P w K mg base "_law_hooks_walked" 2 ["lam"] (spWalked K (TT K)) := fn__law_hooks_walked G (Has_mono h__law_cells_of (by decide)) F__law_hooks_walked (fun vs H Q E h => by obtain ⟨_, _, rfl, _⟩ := h; rfl) rd_law_hooks_walked
  have h__law_parts_told : Has P w K mg base "_law_parts_told" 8 ["jar", "lam"] (spParts K (TT K)) := fn__law_parts_told G (Has_mono h__law_like (by decide)) (Has_mono h_read_shape (by decide)) (Has_mono h__law_stair_in (by decide)) (Has_mono h__law_columns (by decide)) (Has_mono h_turned (by decide)) (Has_mono h__law_hooks_walked (by decide)) (Has_mono h_hooks (by decide)) (Has_mono h__law_core_of (by decide)) (Has_mono h_core (by decide)) k_hooks_shape k_turned_shape F__law_parts_told (fun vs H Q E h => by obtain ⟨_, _, _, rfl, _⟩ := h; rfl) (rd_law_parts_told mathP)
  have h__law_sites_told : Has P w K mg base "_law_sites_told" 7 ["jar", "lam"] (spParts K (TT K)) := fn__law_sites_told G (Has_mono h__law_spot (by decide)) (Has_mono h__law_is_gap (by decide)) (Has_mono h__law_like (by decide)) (Has_mono h_falling (by decide)) (Has_mono h__law_stair_in (by decide)) (Has_mono h__law_columns (by decide)) (Has_mono h__law_pick (by decide)) (Has_mono h_gaps (by decide)) k_falling_site_shape k_gaps_low_shape F__law_sites_told (fun vs H Q E h => by obtain ⟨_, _, _, rfl, _⟩ := h; rfl) (rd_law_sites_told mathP)
  have h__law_faults_told := fn__law_faults_told (P := P) (w := w) (base := base) mathP G X h__law_bent_stair h__law_pick h__law_reach h__law_refuses h__law_like h_read_shape h__law_is_gap h_falling h_gaps h_turned h_hooks h_core k_read_shape_thing T2 F__law_faults_told
  exact fo_law G (Has_mono h__law_bag (by decide)) (Has_mono h__law_stair (by decide)) (Has_mono h__law_draw (by decide)) (Has_mono h__law_parts_told (by decide)) (Has_mono h__law_sites_told (by decide)) (Has_mono h__law_faults_told (by decide)) (Has_mono h__law_like (by decide)) (Has_mono h_read_shape (by decide)) (Has_mono h_gaps (by decide)) F (fun vs H Q E h => by obtain ⟨_, _, rfl, _⟩ := h; rfl) rd_law
end
theorem tabs_of {K : PySem.W.Frag} {H : Hp} (h2 : H (P2 K) = some (.tbl #[])) : Tabs (TT K) H := by
  have e : ∀ (P : Addr) (q : Str), H P = some (.tbl #[]) → TabS H P q := fun P q h => ⟨#[], h, trivial, fun pos cv e => by cases e⟩
  intro p hp
  simp only [TT, List.mem_cons, List.not_mem_nil, or_false] at hp
  rw [hp]
  exact e _ _ h2
end K20
open PySem PySem.W PySem.Calls PyProof.Rows
theorem PySem.Challenge.cw_logless_k20_sites_hooks_cores_holds : PySem.Challenge.rw_logless_k20_sites_hooks_cores.Holds := by
  w_on; o_law
  refine HandSHeadRun.head_any (r := OpenLaw.row PySem.Challenge.rw_logless_k20_sites_hooks_cores) (q := view (OpenLaw.row PySem.Challenge.rw_logless_k20_sites_hooks_cores).prog [79]) (H := K20.hk) (ob := K20.ob) (M := 12000) (loose := K20.names) (d := HandSHeadRun.topDef (OpenLaw.row PySem.Challenge.rw_logless_k20_sites_hooks_cores).prog 79) (kwd := []) K20.ob_eq
    (by kernel_rfl) (fun s => by kernel_rfl) K20.run (by kernel_rfl) (by kernel_rfl) (by kernel_rfl) (by rfl) (by first | assumption | decide +kernel) (by decide +kernel) ⟨rfl, rfl, rfl, rfl, rfl, by decide +kernel⟩ ?hw ?hc
  case hw => w_witness2
  case hc =>
    refine LamX.walk_ofTsE (l := PySem.Challenge.rw_logless_k20_sites_hooks_cores) (n := 63) (k := 13) (x := "script") (CX := fun w => L2N.CX (PySem.Challenge.rw_logless_k20_sites_hooks_cores).prog w) rfl (by decide) (by kernel_rfl) ⟨rfl, by decide, by decide⟩ ?F ?X
    case X =>
      intro _ _ _ _ _ z
      obtain ⟨_, _, _, _, _, _, _, _, _, _, _, _, h⟩ := z
      exact h
    case F =>
    intro w mg fa h Y G hmg0
    obtain ⟨K, KX, c⟩ := Y
    have hmg : mg ("law" : PySem.Str) = some (.ref fa) := by
      have e : (HandSHeadRun.topDef (OpenLaw.row PySem.Challenge.rw_logless_k20_sites_hooks_cores).prog 79).name = ("law" : PySem.Str) := by kernel_rfl
      rw [← e]
      exact hmg0
    have cd := c.t.d
    have GG := K20.glob_of KX G cd
    obtain ⟨fd, F⟩ := cd.def_ 45 (d := K20.d_law) rfl
    have e := hmg.symm.trans GG.g_law
    cases e
    refine ⟨K, KX, fd, K20.tf.map (He.cT K), K20.spLaw K, ?_, ?_, ?_, ?_, ?_, ?_⟩
    · intro p hp
      obtain ⟨q, hq, rfl⟩ := List.mem_map.mp hp
      exact c.empty q hq
    · intro p hp
      obtain ⟨q, hq, rfl⟩ := List.mem_map.mp hp
      exact c.out q hq
    · intro p hp
      obtain ⟨q, hq, rfl⟩ := List.mem_map.mp hp
      exact PySem.W.codeHd_of_K KX (c.hd q hq)
    · exact fun s v => (L2.FunD.bindsA (ps := ["script"]) F fun _ _ _ _ _ _ us hl => match us, hl with | [_], _ => rfl) s [v] rfl
    · exact fun H a ns hl hb hH hS => ⟨a, ns, rfl, hS, K20.tabs_of (hH _ (List.mem_cons_self ..)), fun _ _ => rfl⟩
    · intro base hK hN hT
      exact K20.chain (P := (PySem.Challenge.rw_logless_k20_sites_hooks_cores).prog) (K20.glob_of hK hN cd) cd c.more (hT _ (List.mem_cons_self ..)) F
