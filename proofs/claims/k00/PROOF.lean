import PyProof.Rows.All
import Wide.All
import OpenK.AllK
import Wide.FinOn
import HandS.ForMost
import HandS.Exc
import HandS.ExcOwn
import HandS.ExcCtx
import HandS.Hot
import HandS.HotCalls
import HandS.Lambda
import HandS.Nested
import HandS.IsInst
import HandS.ExcIs
import HandS.ExcInit
import HandS.ExcInitHot
import HandS.ExcField
import HandS.Defaults
import HandS.HeadHook1
import HandS.HeadHook2
import KE.KExcInit
import HandS.HeadHook4
import HandS.Head0
import HandS.Head1
import HandS.Head2
import HandS.Head3
import HandS.HeadHook3
import HandS.HeadEnd
import HandS.HeadWalk
import HandS.EndTab
import HandS.Text
import HandS.Flt
import HandS.SortKw
import HandS.Conv
import HandS.StrMore
import HandS.TupAny
import KE.DataMinMax
import HandS.Steps
import HandS.Style
import HandS.Dict
import HandS.Evl
import HandS.Iter
import KE.KEqDeep
import KE.GoesMore
import HandS.FStr
import HandS.Wide
import HandS.WideBits
import HandS.Gcd
import HandS.SortInts
import PyProof.Rows.Walk
import KE.IntTextText
import PyProof.Rows.StrIntSpec
import PySem.Challenge.RW_logless_k00_numbers_there_and_back
section
set_option Elab.async false
set_option linter.all false
set_option maxRecDepth 100000
set_option maxHeartbeats 2000000
/-! lambdas as values: made in a def's body, handed to other defs, called there; the maker's cells are pinned meanwhile -/
namespace LV
open PySem PySem.Spec PyProof.Rows L2 LamX NdefX

def mix (cs : List Addr) (H1 H2 : Hp) : Hp := fun b => if b ∈ cs then H1 b else H2 b
theorem mix_in {cs : List Addr} {H1 H2 : Hp} {b : Addr} (h : b ∈ cs) : mix cs H1 H2 b = H1 b := if_pos h
theorem mix_out {cs : List Addr} {H1 H2 : Hp} {b : Addr} (h : b ∉ cs) : mix cs H1 H2 b = H2 b := if_neg h
abbrev HN : Hp := fun _ => none
/-- the very object o stands at c -/
def Pin (c : Addr) (o : Obj) : HO := .ext fun h => h.get? c = some o
theorem pin_own {c x : Addr} {o : Obj} : Pin c o ≠ .own x := fun z => by
  unfold Pin at z; cases z
theorem pin_tup {c : Addr} {o : Obj} {xs : List V} : Pin c o ≠ .tup xs := fun z => by
  unfold Pin at z; cases z
theorem pin_frz {c : Addr} {o o' : Obj} {u : HO} : Pin c o ≠ .frz o' u := fun z => by
  unfold Pin at z; cases z
theorem pin_tbl {c : Addr} {o : Obj} {ps : Array Value} : Pin c o ≠ .tbl ps := fun z => by
  unfold Pin at z; cases z
section
variable {P : Program} {w : World} {H H' H2 : Hp} {h : Heap} {c : Addr} {o : Obj} {cs : List Addr}
theorem pin_ok (e : h.get? c = some o) : ObjOk P w H h c (Pin c o) := ⟨e, ⟨o, e⟩, fun _ _ e1 st => st _ e1⟩
theorem pin_at (hok : HOk P w H h) (e : H c = some (Pin c o)) : h.get? c = some o := (hok c _ e).1
theorem hok_unpin (hok : HOk P w H h) (hp : ∀ c ∈ cs, ∃ o, H c = some (Pin c o)) : HOk P w (mix cs HN H) h := fun a u e => by
  have na : a ∉ cs := fun z => by rw [mix_in z] at e; cases e
  rw [mix_out na] at e
  have out : ∀ b u, H b = some u → (∀ c o, u ≠ Pin c o) → mix cs HN H b = some u := fun b u q n => by
    have nb : b ∉ cs := fun z => by
      obtain ⟨o', e'⟩ := hp b z
      rw [q] at e'
      exact n _ _ (Option.some.inj e')
    rw [mix_out nb]
    exact q
  exact (hok a u e).stay (fun _ _ _ q => q) (fun b q => out b _ q fun c o z => pin_own z.symm) fun b xs q => out b _ q fun c o z => pin_tup z.symm
theorem hok_repin (hok : HOk P w H' h) (hH : ∀ c ∈ cs, ∃ o, H2 c = some (Pin c o) ∧ h.get? c = some o) (hn : ∀ c ∈ cs, H' c = none) : HOk P w (mix cs H2 H') h := fun a u e => by
  by_cases na : a ∈ cs
  · rw [mix_in na] at e
    obtain ⟨o', e1, e2⟩ := hH a na
    rw [e] at e1
    have e3 := Option.some.inj e1
    subst e3
    exact pin_ok e2
  · rw [mix_out na] at e
    have out : ∀ b u, H' b = some u → mix cs H2 H' b = some u := fun b u q => by
      have nb : b ∉ cs := fun z => by rw [hn b z] at q; cases q
      rw [mix_out nb]
      exact q
    exact (hok a u e).stay (fun _ _ _ q => q) (fun b q => out b _ q) fun b xs q => out b _ q
end
section
variable {P : Program} {w : World} {K : PySem.W.Frag} {mg : Str → Option Value} {base : Heap} {A : Around} {outer : List Env} {s s' : Shared} {H : Hp} {cs : List Addr} {Q : VK} {E : XK}
theorem env0_unpin (e0 : Env0 P w K mg base A outer s H) (hp : ∀ c ∈ cs, ∃ o, H c = some (Pin c o)) : Env0 P w K mg base A outer s (mix cs HN H) := by
  have nn : ∀ b, H b = none → mix cs HN H b = none := fun b e => by
    by_cases z : b ∈ cs
    · rw [mix_in z]
    · rw [mix_out z]; exact e
  exact ⟨e0.frames, e0.mod, fun b o e => ⟨(e0.bs b o e).1, nn b (e0.bs b o e).2⟩, e0.bsz, e0.funs, fun b hb => nn b (e0.frf b hb), hok_unpin e0.hok hp, e0.bare⟩
theorem nfr_of (e0 : Env0 P w K mg base A outer s H) (hp : ∀ c ∈ cs, ∃ o, H c = some (Pin c o)) : ∀ c ∈ cs, c ∉ frs outer := fun c hc hm => by
  obtain ⟨o, e⟩ := hp c hc
  rw [e0.frf c hm] at e
  cases e
theorem out_of (hp : ∀ c ∈ cs, ∃ o, H c = some (Pin c o)) {b : Addr} {u : Option HO} (e : H b = u) (n : ∀ c o, u ≠ some (Pin c o)) : b ∉ cs ∧ mix cs HN H b = u := by
  have nb : b ∉ cs := fun z => by
    obtain ⟨o', e'⟩ := hp b z
    rw [e] at e'
    exact n _ _ e'
  exact ⟨nb, by rw [mix_out nb]; exact e⟩
theorem ce_repin {u : Value} (e0 : Env0 P w K mg base A outer s H) (hp : ∀ c ∈ cs, ∃ o, H c = some (Pin c o)) (h : CE outer P w (mix cs HN H) s (fun v H' => Q v (mix cs H H')) u s') : CE outer P w H s Q u s' := by
  obtain ⟨v, H', os, bare, un, hok', rv, q⟩ := h
  have nf := nfr_of e0 hp
  have oldC : ∀ c ∈ cs, ∃ o, H c = some (Pin c o) ∧ s.heap.get? c = some o := fun c hc => by
    obtain ⟨o, e⟩ := hp c hc
    exact ⟨o, e, pin_at e0.hok e⟩
  have nH' : ∀ c ∈ cs, H' c = none := fun c hc => by
    obtain ⟨o, e, g⟩ := oldC c hc
    exact un.free c o g (mix_in hc) (by simp)
  have newC : ∀ c ∈ cs, ∃ o, H c = some (Pin c o) ∧ s'.heap.get? c = some o := fun c hc => by
    obtain ⟨o, e, g⟩ := oldC c hc
    exact ⟨o, e, un.keep c o g (mix_in hc) (nf c hc) (by simp)⟩
  refine ⟨v, mix cs H H', os, bare, ⟨fun b o e n hb hx => ?_, fun b o e n hb hx => ?_, fun b o e n hx => ?_, un.there, fun b xs e => ?_, fun b o u e => ?_, fun b ps e => ?_⟩, hok_repin hok' newC nH', rv, q⟩
  · exact un.keep b o e (out_of hp n (fun _ _ z => by cases z)).2 hb hx
  · exact un.slot b o e (out_of hp n (fun _ _ z => by cases z)).2 hb hx
  · obtain ⟨h1, h2⟩ := out_of hp n (fun _ _ z => by cases z)
    rw [mix_out h1]
    exact un.free b o e h2 hx
  · obtain ⟨h1, h2⟩ := out_of hp e (fun _ _ z => pin_tup (Option.some.inj z).symm)
    rw [mix_out h1]
    exact un.tups b xs h2
  · obtain ⟨h1, h2⟩ := out_of hp e (fun _ _ z => pin_frz (Option.some.inj z).symm)
    rw [mix_out h1]
    exact un.frzs b o u h2
  · obtain ⟨h1, h2⟩ := out_of hp e (fun _ _ z => pin_tbl (Option.some.inj z).symm)
    rw [mix_out h1]
    exact un.tbls b ps h2
theorem cx_repin {u : Value} (e0 : Env0 P w K mg base A outer s H) (hp : ∀ c ∈ cs, ∃ o, H c = some (Pin c o)) (h : L2N.CX P w outer (mix cs HN H) s (fun cls d H' => E cls d (mix cs H H')) u s') : L2N.CX P w outer H s E u s' := by
  obtain ⟨a, B, H', cls, d, eu, fl, hok', ub, na, os, ag, hE⟩ := h
  have nf := nfr_of e0 hp
  have oldC : ∀ c ∈ cs, ∃ o, H c = some (Pin c o) ∧ s.heap.get? c = some o := fun c hc => by
    obtain ⟨o, e⟩ := hp c hc
    exact ⟨o, e, pin_at e0.hok e⟩
  have nH' : ∀ c ∈ cs, H' c = none := fun c hc => by
    obtain ⟨o, e, g⟩ := oldC c hc
    exact ub.free c o g (mix_in hc)
  have newC : ∀ c ∈ cs, ∃ o, H c = some (Pin c o) ∧ B.get? c = some o := fun c hc => by
    obtain ⟨o, e, g⟩ := oldC c hc
    exact ⟨o, e, ub.keep c o g (mix_in hc) (nf c hc)⟩
  have nac : a ∉ cs := fun z => by
    obtain ⟨o, _, g⟩ := newC a z
    rw [fl.2.1] at g
    cases g
  refine ⟨a, B, mix cs H H', cls, d, eu, fl, hok_repin hok' newC nH', ⟨fun b o e n hb => ?_, ub.slot, fun b o e n => ?_, ub.there, fun b xs e => ?_, fun b o u e => ?_, fun b ps e => ?_⟩, by rw [mix_out nac]; exact na, os, ag, hE⟩
  · exact ub.keep b o e (out_of hp n (fun _ _ z => by cases z)).2 hb
  · obtain ⟨h1, h2⟩ := out_of hp n (fun _ _ z => by cases z)
    rw [mix_out h1]
    exact ub.free b o e h2
  · obtain ⟨h1, h2⟩ := out_of hp e (fun _ _ z => pin_tup (Option.some.inj z).symm)
    rw [mix_out h1]
    exact ub.tups b xs h2
  · obtain ⟨h1, h2⟩ := out_of hp e (fun _ _ z => pin_frz (Option.some.inj z).symm)
    rw [mix_out h1]
    exact ub.frzs b o u h2
  · obtain ⟨h1, h2⟩ := out_of hp e (fun _ _ z => pin_tbl (Option.some.inj z).symm)
    rw [mix_out h1]
    exact ub.tbls b ps h2
theorem cr_repin {r : Result} (e0 : Env0 P w K mg base A outer s H) (hp : ∀ c ∈ cs, ∃ o, H c = some (Pin c o)) (h : CR (L2N.CX P w) outer P w (mix cs HN H) s (fun v H' => Q v (mix cs H H')) (fun cls d H' => E cls d (mix cs H H')) r s') : CR (L2N.CX P w) outer P w H s Q E r s' := by
  cases r with
  | error e => exact cx_repin e0 hp h
  | ok fl =>
    cases fl with
    | ret u => exact ce_repin e0 hp h
    | next => exact h
    | brk => exact h
    | cont => exact h
end

/-! ### thunks -/
/-- what is known by its own object alone stays -/
def ExtE (H H' : Hp) : Prop := ∀ b φ, H b = some (.ext φ) → H' b = some (.ext φ)
theorem ExtE.refl (H : Hp) : ExtE H H := fun _ _ h => h
theorem ExtE.trans {H H1 H2 : Hp} (a : ExtE H H1) (b : ExtE H1 H2) : ExtE H H2 := fun c o h => b c o (a c o h)
/-- a function without parameters at f that keeps sp wherever what H tells stands -/
structure Thunk (P : Program) (w : World) (K : PySem.W.Frag) (mg : Str → Option Value) (base : Heap) (k : Nat) (H : Hp) (f : Addr) (sp : Hp → VK → XK → Prop) : Prop where
  fn : ∀ (H2 : Hp) (h : Heap), ExtE H H2 → HOk P w H2 h → PySem.W.FnAt f h
  run : ∀ (H2 : Hp), ExtE H H2 → ∀ (A : Around) (outer : List Env) (s : Shared) (Q : VK) (E : XK), Room k A → Env0 P w K mg base A outer s H2 → sp H2 Q E →
    codeAny (model P w) A (.call (.ref f) ⟨[], []⟩) (CR (L2N.CX P w) outer P w H2 s Q E) s
section
variable {P : Program} {w : World} {K : PySem.W.Frag} {mg : Str → Option Value} {base : Heap} {k j : Nat} {H H' : Hp} {f : Addr} {sp sp' : Hp → VK → XK → Prop}
theorem Thunk.ext (t : Thunk P w K mg base k H f sp) (e : ExtE H H') : Thunk P w K mg base k H' f sp := ⟨fun H2 h a => t.fn H2 h (e.trans a), fun H2 a => t.run H2 (e.trans a)⟩
theorem Thunk.mono (t : Thunk P w K mg base k H f sp) (h : k ≤ j) : Thunk P w K mg base j H f sp := ⟨t.fn, fun H2 a A outer s Q E r => t.run H2 a A outer s Q E (r.mono h)⟩
theorem Thunk.imp (t : Thunk P w K mg base k H f sp) (h : ∀ H2 Q E, ExtE H H2 → sp' H2 Q E → sp H2 Q E) : Thunk P w K mg base k H f sp' := ⟨t.fn, fun H2 a A outer s Q E r e0 q => t.run H2 a A outer s Q E r e0 (h H2 Q E a q)⟩
end
/-- the lambda's object -/
def LamO (f : Addr) (F : NF) (body : Expr) : HO := .ext fun h => ∃ pm ctv, h.get? f = some (PySem.W.kla_obj "<lambda>" F.qual F.params body F.scope F.cl pm F.c ctv)
theorem lamO_at {P : Program} {w : World} {H : Hp} {h : Heap} {f : Addr} {F : NF} {body : Expr} (hok : HOk P w H h) (e : H f = some (LamO f F body)) : ∃ pm ctv, h.get? f = some (PySem.W.kla_obj "<lambda>" F.qual F.params body F.scope F.cl pm F.c ctv) := (hok f _ e).1
theorem lamO_ok {P : Program} {w : World} {H : Hp} {h : Heap} {f : Addr} {F : NF} {body : Expr} {pm ctv : Value} (e : h.get? f = some (PySem.W.kla_obj "<lambda>" F.qual F.params body F.scope F.cl pm F.c ctv)) : ObjOk P w H h f (LamO f F body) :=
  ⟨⟨pm, ctv, e⟩, ⟨_, e⟩, fun _ _ ⟨pm, ctv, z⟩ st => ⟨pm, ctv, st _ z⟩⟩
/-- the addresses of the cells that names have -/
def celA (cl : List (Str × Addr)) : List Addr := cl.filterMap fun p => cl.lookup p.1
theorem mem_celA {cl : List (Str × Addr)} {c : Addr} : c ∈ celA cl ↔ ∃ y, cl.lookup y = some c := by
  unfold celA
  rw [List.mem_filterMap]
  constructor
  · rintro ⟨p, _, e⟩; exact ⟨_, e⟩
  · rintro ⟨y, e⟩; exact ⟨(y, c), PySem.mem_of_lookup e, e⟩
/-- H with the cells of the frame pinned -/
def pinH (cs : List Addr) (h : Heap) (H : Hp) : Hp := fun b => if b ∈ cs then (h.get? b).map (Pin b) else H b
section
variable {X : Cx} {pins : List (Addr × Obj)} {σ : L2.St} {H : Hp} {s : Shared}
theorem pinH_in {cs : List Addr} {h : Heap} {b : Addr} {o : Obj} (hb : b ∈ cs) (e : h.get? b = some o) : pinH cs h H b = some (Pin b o) := by
  unfold pinH
  rw [if_pos hb, e] <;> rfl
theorem pinH_out {cs : List Addr} {h : Heap} {b : Addr} (hb : b ∉ cs) : pinH cs h H b = H b := if_neg hb
theorem cel_obj (I : Inv X pins σ H s) {c : Addr} (h : c ∈ celA X.env.cells) : ∃ o v, s.heap.get? c = some o ∧ o.data = .cell v := by
  obtain ⟨y, e⟩ := mem_celA.mp h
  obtain ⟨v, o, h1, h2⟩ := I.cell y c e
  exact ⟨o, v, h1, h2⟩
theorem cel_free (I : Inv X pins σ H s) {c : Addr} (h : c ∈ celA X.env.cells) : H c = none := by
  obtain ⟨y, e⟩ := mem_celA.mp h
  exact I.freeC y c e
/-- THE THUNK: a lambda of the running frame, the frame's cells pinned -/
theorem thunk_of {F : NF} {body : Expr} {fr : List Str} {js : List Nat} {f : Addr} {k : Nat} {tb : XK → TE} (I : Inv X pins σ H s) (hf : H f = some (LamO f F body)) (hc : H F.c = some (CodeO F.c F.qual)) (cp : Caps X F.cl fr js) (S : NScope fr [] fr F.scope)
    (hbind : ∀ (pm cv ctv : Value), bindArgs (PySem.W.kla_fn "<lambda>" F.qual F.params body F.scope F.cl pm cv ctv) ⟨[], []⟩ = pure [])
    (hbody : ∀ (A : Around) (outer : List Env) (s : Shared) (H : Hp) (E : XK), Room k (A.deeper (envF F f s.heap.objs.size)) → PE (ncx (L2N.CX X.prog X.w) X.prog X.w X.K X.mg X.base fr F f A outer s H E) body (tb E)) :
    Thunk X.prog X.w X.K X.mg X.base (k + 1) (pinH (celA X.env.cells) s.heap H) f
      (fun H2 Q E => tb (fun cls d H' => E cls d (mix (celA F.cl) H2 H')) (startF fr [] (js.map (slotAt σ))) (mix (celA F.cl) HN H2) (fun v H' => Q v (mix (celA F.cl) H2 H'))) := by
  have sub : ∀ c ∈ celA F.cl, c ∈ celA X.env.cells := fun c h => by
    obtain ⟨y, e⟩ := mem_celA.mp h
    exact mem_celA.mpr ⟨y, cp.sub y c e⟩
  have keepP : ∀ b φ, H b = some (.ext φ) → pinH (celA X.env.cells) s.heap H b = some (.ext φ) := fun b φ e => by
    have nb : b ∉ celA X.env.cells := fun z => by rw [cel_free I z] at e; cases e
    rw [pinH_out nb]
    exact e
  refine ⟨fun H2 h a hok => ?_, fun H2 a A outer s2 Q E hr e0 hq => ?_⟩
  · obtain ⟨pm, ctv, e⟩ := lamO_at hok (a f _ (keepP f _ hf))
    exact ⟨_, _, _, _, e⟩
  · have hp : ∀ c ∈ celA F.cl, ∃ o, H2 c = some (Pin c o) ∧ s.heap.get? c = some o := fun c h => by
      obtain ⟨o, v, g, _⟩ := cel_obj I (sub c h)
      exact ⟨o, a c _ (pinH_in (sub c h) g), g⟩
    have hp' : ∀ c ∈ celA F.cl, ∃ o, H2 c = some (Pin c o) := fun c h => by
      obtain ⟨o, e, _⟩ := hp c h
      exact ⟨o, e⟩
    have e1 := env0_unpin e0 hp'
    have cellK : ∀ {y : Str} {c : Addr} {v : Option Value}, F.cl.lookup y = some c → s.heap.IsCell c v → s2.heap.IsCell c v := fun {y c v} e ⟨o, g, d⟩ => by
      obtain ⟨o', e', g'⟩ := hp c (mem_celA.mpr ⟨y, e⟩)
      rw [g] at g'
      cases g'
      exact ⟨o, pin_at e0.hok e', d⟩
    have C0 := cells_of I cp
    have C : CellsAt F.cl fr (js.map (slotAt σ)) s2.heap (mix (celA F.cl) HN H2) := by
      refine ⟨C0.len, fun y c e => ?_, C0.inj, fun i y e => ?_⟩
      · obtain ⟨_, v, z⟩ := C0.all y c e
        exact ⟨mix_in (mem_celA.mpr ⟨y, e⟩), v, cellK e z⟩
      · obtain ⟨c, hc, hv⟩ := C0.has i y e
        refine ⟨c, hc, fun v ev => ?_⟩
        obtain ⟨u, r, z⟩ := hv v ev
        exact ⟨u, r, cellK hc z⟩
    refine codeAny_mono ?_ fun r s' hq' => cr_repin e0 hp' hq'
    have lim : s2.heap.NoLimit := e1.mod.nolimit.keeps fun b o e => (e1.bs b o e).1
    obtain ⟨pm, ctv, ho⟩ := lamO_at e0.hok (a f _ (keepP f _ hf))
    have hco := codeO_at e0.hok (a F.c _ (keepP F.c _ hc))
    refine PySem.W.kla_callFunE hr.depth ho rfl S.co S.gen rfl hco ?_
    rw [hbind]
    refine wpAny_pure (wpAny_newFunctionEnv S.nocell (fun y hy => absurd hy (by simp)) (fun h₁ hns hsb => ⟨lim.fresh _ hsb, ?_⟩) S.kind)
    show codeAny _ _ (.expr body (envF F f s2.heap.objs.size)) _ _
    have kp : ∀ b o, s2.heap.get? b = some o → h₁.get? b = some o := fun b o e => hsb.extBut b o (Nat.ne_of_lt (Heap.lt_size e)) (Heap.get?_push_of_some _ e)
    have J : Inv (ncx (L2N.CX X.prog X.w) X.prog X.w X.K X.mg X.base fr F f A outer s2 (mix (celA F.cl) HN H2) (fun cls d H' => E cls d (mix (celA F.cl) H2 H'))) [] (startF fr [] (js.map (slotAt σ))) (mix (celA F.cl) HN H2) { s2 with heap := h₁, toks := s2.toks + ([] : List (Str × Value)).length } :=
      inv_startN (us := []) (vs := []) S hr.hd e1 rfl .nil C hns kp
    refine PySem.W.kla_codeExpr (wpAny_mono ((hbody A outer s2 _ _ (hr.deeper _)).run [] _ _ _ _ J hq) (fun v s' hq2 => ?_) fun e s' hq2 => hq2)
    obtain ⟨w', H', J', rv, q⟩ := hq2
    exact ⟨w', H', J'.os, J'.bare, J'.base, J'.hok, rv, q⟩
end
end LV
end
section
set_option Elab.async false
set_option linter.all false
set_option maxRecDepth 100000
set_option maxHeartbeats 2000000
namespace LV
open PySem PySem.Spec PyProof.Rows L2 LamX NdefX
section
variable {X : Cx} {pins : List (Addr × Obj)} {σ : L2.St} {H : Hp} {s : Shared}
/-- a lambda made and known from now on -/
theorem lam_makeO {T : List (Addr × Str)} {c P : Addr} {params : Arguments} {body : Expr} {scope : Scope} {pos : Pos} {E : Value → Shared → Prop} {Q : Value → Shared → Prop} (I : Inv X pins σ H s) (TB : TabB X.base X.mg c P) (hcode : X.env.code = .ref c)
    (hm : (P, X.env.qual ++ "<lambda>") ∈ T) (hu : ∀ p ∈ T, p.1 = P → p.2 = X.env.qual ++ "<lambda>") (hT : Tabs T H) (hdef : defaultsOf params X.env = ([], [])) (hfree : ∀ y ∈ scope.names, y.2 = .free → ∃ c, X.env.cells.lookup y.1 = some c)
    (h : ∀ (f c' : Addr) (H1 : Hp) (s' : Shared), Inv X pins σ H1 s' → ExtN H H1 → (∀ b, H1 b = Option.none → H b = Option.none) → Tabs T H1 → H f = none →
      H1 f = some (LamO f ⟨"<lambda>", X.env.qual ++ "<lambda>", params, [], scope, cloFrom X.env.cells scope.names [], c'⟩ body) → H1 c' = some (CodeO c' (X.env.qual ++ "<lambda>")) → Q (.ref f) s') :
    wpAny (model X.prog X.w) X.A (eval (.Lambda params body scope pos) X.env) Q E s := by
  obtain ⟨ps, hP, ht, ha⟩ := hT _ hm
  refine PySem.W.kla_eval hdef ?_
  have bP : s.heap.BuiltinsAt X.mg P := TB.bm.keeps I.bk
  have hP' : s.heap.get? P = some { cls := .none, data := .fields ps } := I.hok P _ hP
  cases hc : codeAmong pos ps.toList with
  | none =>
    refine PySem.W.kla_makeFunction (mg := X.mg) (c := c) (P := P) (ps := ps) (closure_ok hfree) I.ok.glob (I.mod.glob.keeps I.bk) hcode (TB.code.keeps I.bk) hP' ht hc TB.gP bP fun c' ctv h' tk hx hge hlt hrec htb => ?_
    obtain ⟨c2, oc, vs, t, e2, hoc, hd, hv⟩ := hrec
    cases e2
    have hsz : s.heap.objs.size ≤ h'.objs.size := Nat.le_trans hge (Nat.le_of_lt hlt)
    have nC : H c' = none := I.hok.fresh hge
    have I1 := inv_table (t' := tk) (more := #[rawInt pos.line, rawInt pos.col, .ref c']) (h' := h') I hP (fun b o hb e => hx b o hb e) htb hge ⟨oc, vs, t, hoc, hd, hv⟩
    have hE : ExtN H (upd (upd H P (.tbl (ps ++ #[rawInt pos.line, rawInt pos.col, .ref c']))) c' (CodeO c' (X.env.qual ++ "<lambda>"))) := fun b o e n => by
      rw [upd_ne (ne_of_none e nC), upd_ne (fun z => n ps (Option.some.inj (e.symm.trans (by rw [z]; exact hP))))]
      exact e
    have eL : (ps ++ #[rawInt pos.line, rawInt pos.col, .ref c']).toList = ps.toList ++ [rawInt pos.line, rawInt pos.col, .ref c'] := by simp
    have T1 : Tabs T (upd (upd H P (.tbl (ps ++ #[rawInt pos.line, rawInt pos.col, .ref c']))) c' (CodeO c' (X.env.qual ++ "<lambda>"))) := fun p hp => by
      by_cases hb : p.1 = P
      · rw [hu p hp hb, hb]
        refine ⟨_, by rw [upd_ne (ne_of_none hP nC), upd_same], by rw [eL]; exact PySem.TriplesOk_snoc _ _ _ _ ht, fun p' cv hcv => ?_⟩
        rw [eL] at hcv
        rcases among_app _ ht hcv with z | z
        · obtain ⟨c0, e1, e2⟩ := ha p' cv z
          exact ⟨c0, e1, hE _ _ e2 codeO_ne⟩
        · exact ⟨c', z, upd_same⟩
      · obtain ⟨ps', a1, a2, a3⟩ := hT p hp
        refine ⟨ps', by rw [upd_ne (ne_of_none a1 nC), upd_ne hb]; exact a1, a2, fun p' cv hcv => ?_⟩
        obtain ⟨c0, e1, e2⟩ := a3 p' cv hcv
        exact ⟨c0, e1, hE _ _ e2 codeO_ne⟩
    have nF := I1.hok.fresh (Nat.le_refl _)
    have I2 : Inv X pins σ (upd (upd (upd H P (.tbl (ps ++ #[rawInt pos.line, rawInt pos.col, .ref c']))) c' (CodeO c' (X.env.qual ++ "<lambda>"))) h'.objs.size (LamO h'.objs.size ⟨"<lambda>", X.env.qual ++ "<lambda>", params, [], scope, cloFrom X.env.cells scope.names [], c'⟩ body)) _ :=
      I1.laid (t' := tk) (h' := h'.push (PySem.W.kla_obj "<lambda>" (X.env.qual ++ "<lambda>") params body scope (cloFrom X.env.cells scope.names []) ((X.mg "__name__").getD .none) c' ctv)) (fun b u e => Heap.get?_push_of_some _ e) (Nat.le_refl _) (lamO_ok (Heap.get?_push_size _ rfl))
    refine h h'.objs.size c' _ _ I2 (fun b o e n => ?_) (fun b e => upd_none (upd_none (upd_none e))) (fun p hp => ?_) (I.hok.fresh hsz) upd_same ?_
    · have e1 := hE b o e n
      exact (upd_ne (ne_of_none e1 nF)).trans e1
    · exact (T1 p hp).ext fun b o e => (upd_ne (ne_of_none e nF)).trans e
    · exact (upd_ne (Nat.ne_of_lt hlt)).trans upd_same
  | some cv =>
    obtain ⟨c', e, hco⟩ := ha pos cv hc
    subst e
    refine PySem.W.kla_makeFunctionHit (mg := X.mg) (c := c) (P := P) (ps := ps) (closure_ok hfree) I.ok.glob (I.mod.glob.keeps I.bk) hcode (TB.code.keeps I.bk) hP' ht hc bP fun ctv h' tk hx hsz => ?_
    have I1 : Inv X pins σ H { s with heap := h', toks := tk } := I.kept hx
    have nF : H h'.objs.size = none := I1.hok.fresh (Nat.le_refl _)
    have I2 : Inv X pins σ (upd H h'.objs.size (LamO h'.objs.size ⟨"<lambda>", X.env.qual ++ "<lambda>", params, [], scope, cloFrom X.env.cells scope.names [], c'⟩ body)) _ :=
      I1.laid (t' := tk) (h' := h'.push (PySem.W.kla_obj "<lambda>" (X.env.qual ++ "<lambda>") params body scope (cloFrom X.env.cells scope.names []) ((X.mg "__name__").getD .none) c' ctv)) (fun b u e => Heap.get?_push_of_some _ e) (Nat.le_refl _) (lamO_ok (Heap.get?_push_size _ rfl))
    refine h h'.objs.size c' _ _ I2 (fun b o e n => ?_) (fun b e => upd_none e) (fun p hp => ?_) nF upd_same ?_
    · exact (upd_ne (ne_of_none e nF)).trans e
    · exact (hT p hp).ext fun b o e => (upd_ne (ne_of_none e nF)).trans e
    · exact (upd_ne (ne_of_none hco nF)).trans hco
end
/-- lambda: body, as an expression -/
def tLamV (T : List (Addr × Str)) (mk : Addr → NF) (body : Expr) : TE := fun σ H Q => Tabs T H ∧ ∀ (f c' : Addr) (H1 : Hp), ExtN H H1 → (∀ b, H1 b = Option.none → H b = Option.none) → Tabs T H1 → H f = none → H1 f = some (LamO f (mk c') body) → H1 c' = some (CodeO c' (mk c').qual) → Q (.ref f) H1
abbrev lamF (X : Cx) (params : Arguments) (scope : Scope) (c' : Addr) : NF := ⟨"<lambda>", X.env.qual ++ "<lambda>", params, [], scope, cloFrom X.env.cells scope.names [], c'⟩
theorem pe_lam {X : Cx} {T : List (Addr × Str)} {c P : Addr} {params : Arguments} {body : Expr} {scope : Scope} {pos : Pos} (TB : TabB X.base X.mg c P) (hcode : X.env.code = .ref c)
    (hm : (P, X.env.qual ++ "<lambda>") ∈ T) (hu : ∀ p ∈ T, p.1 = P → p.2 = X.env.qual ++ "<lambda>") (hdef : defaultsOf params X.env = ([], []))
    (hfree : ∀ y ∈ scope.names, y.2 = .free → X.env.scope.names.lookup y.1 = some .cell ∨ X.env.scope.names.lookup y.1 = some .free) :
    PE X (.Lambda params body scope pos) (tLamV T (lamF X params scope) body) := by
  refine ⟨fun pins s σ H Q I h => ?_⟩
  obtain ⟨hT, h⟩ := h
  have hfr : ∀ y ∈ scope.names, y.2 = .free → ∃ c, X.env.cells.lookup y.1 = some c := fun y hy e => (hfree y hy e).elim (fun z => I.ok.has _ (.inl z)) fun z => I.ok.has _ (.inr z)
  exact lam_makeO I TB hcode hm hu hT hdef hfr fun f c' H1 s' J e nn T1 n hf hc => ⟨.ref f, H1, J, rfl, h f c' H1 e nn T1 n hf hc⟩

/-! ### a call while the frame's cells are pinned -/
/-- what a lambda of the running frame is -/
structure LamD where
  nf : Addr → NF
  body : Expr
  js : List Nat
  k : Nat
  sp : List (Option V) → Hp → VK → XK → Prop
/-- H2: H1, and some cells pinned -/
def PinR (H1 H2 : Hp) : Prop := ∀ b, H2 b = H1 b ∨ (H1 b = none ∧ ∃ o, H2 b = some (Pin b o))
/-- H4: H3 without the pins -/
def UnpR (H1 H2 H3 H4 : Hp) : Prop := ∀ b, H4 b = H3 b ∨ (H4 b = none ∧ H1 b = none ∧ ∃ o, H2 b = some (Pin b o))
def CodeK (H3 H4 : Hp) : Prop := ∀ b q, H3 b = some (CodeO b q) → H4 b = some (CodeO b q)
def Kept (H1 H2 H3 : Hp) : Prop := ∀ b o, H1 b = none → H2 b = some (Pin b o) → H3 b = some (Pin b o)
/-- the frame's lambdas are thunks -/
def Lams (P : Program) (w : World) (K : PySem.W.Frag) (mg : Str → Option Value) (base : Heap) (LS : List LamD) (σ : L2.St) (H1 H2 : Hp) : Prop :=
  ∀ L ∈ LS, ∀ f c', H1 f = some (LamO f (L.nf c') L.body) → H1 (L.nf c').c = some (CodeO (L.nf c').c (L.nf c').qual) → Thunk P w K mg base L.k H2 f (L.sp (L.js.map (slotAt σ)))
def tPin (P : Program) (w : World) (K : PySem.W.Frag) (mg : Str → Option Value) (base : Heap) (LS : List LamD) (sp : Sp) (t : TA) : TE := fun σ H Q => t σ H fun vs H1 => ∀ H2, PinR H1 H2 → Lams P w K mg base LS σ H1 H2 →
  sp vs H2 (fun v H3 => Kept H1 H2 H3 ∧ ∀ H4, UnpR H1 H2 H3 H4 → CodeK H3 H4 → Q v H4) fun _ _ _ => False
section
variable {X : Cx} {pins : List (Addr × Obj)} {σ : L2.St} {H : Hp} {s s' : Shared}
theorem cel_above (I : Inv X pins σ H s) (hfn : ∀ x, X.fn x = true) {c : Addr} (h : c ∈ celA X.env.cells) : X.s_0.heap.objs.size ≤ c := by
  obtain ⟨y, e⟩ := mem_celA.mp h
  exact I.ok.cab y c (hfn y) e
theorem cel_nofr (I : Inv X pins σ H s) (hfn : ∀ x, X.fn x = true) {c : Addr} (h : c ∈ celA X.env.cells) : c ∉ frs X.stack := fun hm => by
  rcases List.mem_cons.mp (I.stkSub c hm) with e | e
  · obtain ⟨y, e'⟩ := mem_celA.mp h
    exact I.cne y c e' e
  · obtain ⟨_, o, ho, _⟩ := I.ok.funs.mem e
    exact absurd (Nat.lt_of_lt_of_le (Heap.lt_size ho) (cel_above I hfn h)) (Nat.lt_irrefl _)
theorem env0_pin (I : Inv X pins σ H s) (hfn : ∀ x, X.fn x = true) : Env0 X.prog X.w X.K X.mg X.base X.A X.stack s (pinH (celA X.env.cells) s.heap H) := by
  have e0 := I.env0
  refine ⟨e0.frames, e0.mod, fun b o e => ⟨(e0.bs b o e).1, ?_⟩, e0.bsz, e0.funs, fun b hb => ?_, fun a u e => ?_, e0.bare⟩
  · by_cases z : b ∈ celA X.env.cells
    · have h1 := cel_above I hfn z
      have h2 := Heap.lt_size (I.ok.bs b o e).1
      exact absurd (Nat.lt_of_lt_of_le h2 h1) (Nat.lt_irrefl _)
    · rw [pinH_out z]
      exact (e0.bs b o e).2
  · by_cases z : b ∈ celA X.env.cells
    · exact absurd hb (cel_nofr I hfn z)
    · rw [pinH_out z]
      exact e0.frf b hb
  · by_cases z : a ∈ celA X.env.cells
    · obtain ⟨o, v, g, _⟩ := cel_obj I z
      rw [pinH_in z g] at e
      cases e
      exact pin_ok g
    · rw [pinH_out z] at e
      have out : ∀ b u, H b = some u → pinH (celA X.env.cells) s.heap H b = some u := fun b u q => by
        have nb : b ∉ celA X.env.cells := fun z => by rw [cel_free I z] at q; cases q
        rw [pinH_out nb]
        exact q
      exact (e0.hok a u e).stay (fun _ _ _ q => q) (fun b q => out b _ q) fun b xs q => out b _ q
theorem pinR (I : Inv X pins σ H s) : PinR H (pinH (celA X.env.cells) s.heap H) := fun b => by
  by_cases z : b ∈ celA X.env.cells
  · obtain ⟨o, v, g, _⟩ := cel_obj I z
    exact .inr ⟨cel_free I z, o, pinH_in z g⟩
  · exact .inl (pinH_out z)
/-- behind the call: the pins are taken off -/
theorem after_pin {Q : VK} {u : Value} (I : Inv X pins σ H s) (hfn : ∀ x, X.fn x = true)
    (h : CE X.stack X.prog X.w (pinH (celA X.env.cells) s.heap H) s (fun v H3 => Kept H (pinH (celA X.env.cells) s.heap H) H3 ∧ ∀ H4, UnpR H (pinH (celA X.env.cells) s.heap H) H3 H4 → CodeK H3 H4 → Q v H4) u s') : EP X pins σ Q u s' := by
  obtain ⟨v, H3, os, bare, un, hok, rv, kp, q⟩ := h
  have cs := celA X.env.cells
  have pin3 : ∀ c ∈ celA X.env.cells, ∃ o, s.heap.get? c = some o ∧ H3 c = some (Pin c o) := fun c hc => by
    obtain ⟨o, v, g, _⟩ := cel_obj I hc
    exact ⟨o, g, kp c o (cel_free I hc) (pinH_in hc g)⟩
  have oldS : ∀ b u, H b = u → b ∉ celA X.env.cells → pinH (celA X.env.cells) s.heap H b = u := fun b u e z => (pinH_out z).trans e
  have notC : ∀ b u, H b = some u → b ∉ celA X.env.cells := fun b u e z => by rw [cel_free I z] at e; cases e
  refine ⟨v, mix (celA X.env.cells) HN H3, I.call' (ch := []) os ⟨fun b o e n hb hx => ?_, fun b o e n hb hx => ?_, fun b o e n hx => ?_, un.there, fun b xs e => ?_, fun b o u e => ?_, fun b ps e => ?_⟩ (hok_unpin hok fun c hc => ?_) bare (fun _ z => nomatch z), rv, q _ (fun b => ?_) fun b qn e => ?_⟩
  · by_cases z : b ∈ celA X.env.cells
    · obtain ⟨o', g, e3⟩ := pin3 b z
      rw [e] at g
      cases g
      exact pin_at hok e3
    · exact un.keep b o e (oldS b _ n z) hb hx
  · by_cases z : b ∈ celA X.env.cells
    · exact absurd hb (cel_nofr I hfn z)
    · exact un.slot b o e (oldS b _ n z) hb hx
  · by_cases z : b ∈ celA X.env.cells
    · exact mix_in z
    · rw [mix_out z]
      exact un.free b o e (oldS b _ n z) hx
  · rw [mix_out (notC b _ e)]
    exact un.tups b xs (oldS b _ e (notC b _ e))
  · rw [mix_out (notC b _ e)]
    exact un.frzs b o u (oldS b _ e (notC b _ e))
  · rw [mix_out (notC b _ e)]
    exact un.tbls b ps (oldS b _ e (notC b _ e))
  · obtain ⟨o, _, e3⟩ := pin3 c hc
    exact ⟨o, e3⟩
  · by_cases z : b ∈ celA X.env.cells
    · obtain ⟨o, v, g, _⟩ := cel_obj I z
      exact .inr ⟨mix_in z, cel_free I z, o, pinH_in z g⟩
    · exact .inl (mix_out z)
  · have nb : b ∉ celA X.env.cells := fun z => by
      obtain ⟨o, v, g, d⟩ := cel_obj I z
      obtain ⟨o', g', e3⟩ := pin3 b z
      rw [g] at g'
      cases g'
      have h1 := pin_at hok e3
      obtain ⟨⟨oc, vs, t, h2, h3, _⟩, _, _⟩ := hok b _ e
      rw [h1] at h2
      cases h2
      rw [d] at h3
      cases h3
    rw [mix_out nb]
    exact e
end
/-- what the maker says of a lambda of its own -/
def LamOk (X : Cx) (L : LamD) : Prop := ∀ (pins : List (Addr × Obj)) (σ : L2.St) (H : Hp) (s : Shared), Inv X pins σ H s → ∀ f c', H f = some (LamO f (L.nf c') L.body) → H (L.nf c').c = some (CodeO (L.nf c').c (L.nf c').qual) →
  Thunk X.prog X.w X.K X.mg X.base L.k (pinH (celA X.env.cells) s.heap H) f (L.sp (L.js.map (slotAt σ)))
section
variable {X : Cx} {CX : CXT} {k : Nat} {g : Addr} {fd : FuncData} {ps : List Str} {sp : Sp} {x : Str} {p pos : Pos} {e : Expr} {es : List Expr} {t : TA} {LS : List LamD}
/-- g(e, ..), some of the arguments lambdas of the running frame -/
theorem pe_callPin (F : FnOk X.prog X.w X.K X.mg X.base CX k g fd ps sp) (hr : Room k X.A) (hfn : ∀ x, X.fn x = true) (hL : ∀ L ∈ LS, LamOk X L) (hg : Gl X x) (hm : X.mg x = some (.ref g)) (hk : PySem.W.keepIn X.K (.ref g) = true) (hb : Binds X.K fd ps [])
    (hx : ∀ (s : Shared) (H : Hp) (e : Value) (s' : Shared), CX X.stack H s (fun _ _ _ => False) e s' → False) (ha : PA X (e :: es) t)
    (hdb : (x == ("__debug__" : Str)) = false := by decide) (he : starEach (e :: es) X.env = (false, eval e X.env) :: starEach es X.env := by rfl) (hpl : (backTo pos (starEach es X.env)).any (·.1) = false := by rfl) :
    PE X (.Call (.Name x p) (e :: es) [] pos) (tPin X.prog X.w X.K X.mg X.base LS sp t) := by
  refine ⟨fun pins s σ H Q I h => ?_⟩
  refine wpAny_Call_Name_kw (ld_glob I hg hm ?_ hdb)
  refine PySem.W.callWith_K (h₀ := X.base) I.ok.mod.kin hk (thn (ha.run pos pins s σ H _ I h) fun us s1 ⟨vs, H1, I1, r, q⟩ => ⟨I1.kIn, ?_⟩) he hpl
  have q2 := q _ (pinR I1) fun L hl f c' hf hc => hL L hl pins σ H1 s1 I1 f c' hf hc
  have hl : us.length = ps.length := by rw [← r.length]; exact F.len _ _ _ _ q2
  have b := hb s1 us I1.kIn (by rw [List.append_nil]; exact hl)
  rw [List.append_nil] at b
  refine wpAny_call (codeAny_mono (F.run X.A X.stack s1 _ ⟨us, []⟩ us vs _ _ hr (env0_pin I1 hfn) b r q2) fun r s' hq => ?_)
  cases r with
  | error e => exact (hx _ _ _ _ hq).elim
  | ok fl =>
    cases fl with
    | ret u => exact after_pin I1 hfn hq
    | next => exact False.elim hq
    | brk => exact False.elim hq
    | cont => exact False.elim hq
end
section
variable {X : Cx} {k i : Nat} {a : Str} {p1 p2 : Pos} {E : L2.St → XK}
/-- x(), x a name that holds a thunk -/
def tThunk (P : Program) (w : World) (K : PySem.W.Frag) (mg : Str → Option Value) (base : Heap) (k i : Nat) (E : L2.St → XK) : TE := fun σ H Q => ∃ f sp, σ[i]? = some (some (.ref f)) ∧ Thunk P w K mg base k H f sp ∧ sp H Q (E σ)
theorem pe_thunk (hr : Room k X.A) (hx : ∀ σ, PassesAt (L2N.CX X.prog X.w) X σ (E σ)) (hN : X.N[i]? = some a) (hv : Vis X.env.scope a) (hd : (a == ("__debug__" : Str)) = false := by decide) (hcd : (a == ("__classdict__" : Str)) = false := by decide) :
    PE X (.Call (.Name a p1) [] [] p2) (tThunk X.prog X.w X.K X.mg X.base k i E) := by
  refine ⟨fun pins s σ H Q I h => ?_⟩
  obtain ⟨f, sp, hs, T, q⟩ := h
  refine wpAny_Call_Name_kw (thn ((pe_var (pos := p1) (i := i) hN hv hd hcd).run pins s σ H (fun v H1 => v = .ref f ∧ H1 = H) I ⟨.ref f, hs, rfl, rfl⟩) fun u s1 ⟨v, H1, I1, r1, q1⟩ => ?_)
  obtain ⟨ev, eH⟩ := q1
  subst ev
  rw [eH] at I1
  obtain rfl : u = Value.ref f := r1
  refine PySem.W.callWith_F0 (T.fn H _ (ExtE.refl H) I1.hok) ?_
  refine wpAny_call (codeAny_mono (T.run H (ExtE.refl H) X.A X.stack s1 Q (E σ) hr I1.env0 q) fun r s' hq => ?_)
  cases r with
  | error e => exact hx σ pins H s1 e s' I1 hq
  | ok fl =>
    cases fl with
    | ret u => exact I1.after hq
    | next => exact False.elim hq
    | brk => exact False.elim hq
    | cont => exact False.elim hq
end
end LV
end
section
set_option Elab.async false
set_option linter.all false
set_option maxRecDepth 100000
set_option maxHeartbeats 2000000
/-! the thunk once more: its cells are nowhere in what it leaves -/
namespace LV
open PySem PySem.Spec PyProof.Rows L2 LamX NdefX
theorem cr_free {P : Program} {w : World} {outer : List Env} {Hm : Hp} {s s' : Shared} {cs : List Addr} {Q : VK} {E : XK} {r : Result} (hc : ∀ c ∈ cs, ∃ o, s.heap.get? c = some o ∧ Hm c = none)
    (h : CR (L2N.CX P w) outer P w Hm s (fun v H' => (∀ c ∈ cs, H' c = none) → Q v H') (fun cls d H' => (∀ c ∈ cs, H' c = none) → E cls d H') r s') : CR (L2N.CX P w) outer P w Hm s Q E r s' := by
  cases r with
  | error e =>
    obtain ⟨a, B, H', cls, d, e1, fl, hok, ub, na, os, ag, hE⟩ := h
    exact ⟨a, B, H', cls, d, e1, fl, hok, ub, na, os, ag, hE fun c h => by
      obtain ⟨o, g, n⟩ := hc c h
      exact ub.free c o g n⟩
  | ok fl =>
    cases fl with
    | ret u =>
      obtain ⟨v, H', os, bare, un, hok, rv, q⟩ := h
      exact ⟨v, H', os, bare, un, hok, rv, q fun c h => by
        obtain ⟨o, g, n⟩ := hc c h
        exact un.free c o g n (by simp)⟩
    | next => exact h
    | brk => exact h
    | cont => exact h
section
variable {X : Cx} {pins : List (Addr × Obj)} {σ : L2.St} {H : Hp} {s : Shared}
/-- what a lambda of the running frame keeps: its cells (wherever they are) are off while it runs, and back behind it -/
def spLam (tb : XK → TE) (fr : List Str) (vals : L2.St) : Hp → VK → XK → Prop := fun H2 Q E => ∀ cs : List Addr, (∀ c ∈ cs, ∃ o, H2 c = some (Pin c o)) → (∀ c ∈ cs, ∀ q, H2 c ≠ some (CodeO c q)) →
  tb (fun cls d H' => (∀ c ∈ cs, H' c = none) → E cls d (mix cs H2 H')) (startF fr [] vals) (mix cs HN H2) (fun v H' => (∀ c ∈ cs, H' c = none) → Q v (mix cs H2 H'))
/-- THE THUNK: a lambda of the running frame, the frame's cells pinned -/
theorem thunk_ofF {F : NF} {body : Expr} {fr : List Str} {js : List Nat} {f : Addr} {k : Nat} {tb : XK → TE} (I : Inv X pins σ H s) (hf : H f = some (LamO f F body)) (hc : H F.c = some (CodeO F.c F.qual)) (cp : Caps X F.cl fr js) (S : NScope fr [] fr F.scope)
    (hbind : ∀ (pm cv ctv : Value), bindArgs (PySem.W.kla_fn "<lambda>" F.qual F.params body F.scope F.cl pm cv ctv) ⟨[], []⟩ = pure [])
    (hbody : ∀ (A : Around) (outer : List Env) (s : Shared) (H : Hp) (E : XK), Room k (A.deeper (envF F f s.heap.objs.size)) → PE (ncx (L2N.CX X.prog X.w) X.prog X.w X.K X.mg X.base fr F f A outer s H E) body (tb E)) :
    Thunk X.prog X.w X.K X.mg X.base (k + 1) (pinH (celA X.env.cells) s.heap H) f
      (spLam tb fr (js.map (slotAt σ))) := by
  have sub : ∀ c ∈ celA F.cl, c ∈ celA X.env.cells := fun c h => by
    obtain ⟨y, e⟩ := mem_celA.mp h
    exact mem_celA.mpr ⟨y, cp.sub y c e⟩
  have keepP : ∀ b φ, H b = some (.ext φ) → pinH (celA X.env.cells) s.heap H b = some (.ext φ) := fun b φ e => by
    have nb : b ∉ celA X.env.cells := fun z => by rw [cel_free I z] at e; cases e
    rw [pinH_out nb]
    exact e
  refine ⟨fun H2 h a hok => ?_, fun H2 a A outer s2 Q E hr e0 hq => ?_⟩
  · obtain ⟨pm, ctv, e⟩ := lamO_at hok (a f _ (keepP f _ hf))
    exact ⟨_, _, _, _, e⟩
  · have hp : ∀ c ∈ celA F.cl, ∃ o, H2 c = some (Pin c o) ∧ s.heap.get? c = some o := fun c h => by
      obtain ⟨o, v, g, _⟩ := cel_obj I (sub c h)
      exact ⟨o, a c _ (pinH_in (sub c h) g), g⟩
    have hp' : ∀ c ∈ celA F.cl, ∃ o, H2 c = some (Pin c o) := fun c h => by
      obtain ⟨o, e, _⟩ := hp c h
      exact ⟨o, e⟩
    have hq := hq (celA F.cl) hp' (fun c hc q z => by
      obtain ⟨o, v, g, d⟩ := cel_obj I (sub c hc)
      obtain ⟨o', e', g'⟩ := hp c hc
      rw [g] at g'
      cases g'
      have h1 := pin_at e0.hok e'
      obtain ⟨⟨oc, vs, t, h2, h3, _⟩, _, _⟩ := e0.hok c _ z
      rw [h1] at h2
      cases h2
      rw [d] at h3
      cases h3)
    have e1 := env0_unpin e0 hp'
    have cellK : ∀ {y : Str} {c : Addr} {v : Option Value}, F.cl.lookup y = some c → s.heap.IsCell c v → s2.heap.IsCell c v := fun {y c v} e ⟨o, g, d⟩ => by
      obtain ⟨o', e', g'⟩ := hp c (mem_celA.mpr ⟨y, e⟩)
      rw [g] at g'
      cases g'
      exact ⟨o, pin_at e0.hok e', d⟩
    have C0 := cells_of I cp
    have C : CellsAt F.cl fr (js.map (slotAt σ)) s2.heap (mix (celA F.cl) HN H2) := by
      refine ⟨C0.len, fun y c e => ?_, C0.inj, fun i y e => ?_⟩
      · obtain ⟨_, v, z⟩ := C0.all y c e
        exact ⟨mix_in (mem_celA.mpr ⟨y, e⟩), v, cellK e z⟩
      · obtain ⟨c, hc, hv⟩ := C0.has i y e
        refine ⟨c, hc, fun v ev => ?_⟩
        obtain ⟨u, r, z⟩ := hv v ev
        exact ⟨u, r, cellK hc z⟩
    refine codeAny_mono ?_ fun r s' hq' => cr_repin e0 hp' (cr_free (fun c hc => by obtain ⟨o, e⟩ := hp' c hc; exact ⟨o, pin_at e0.hok e, mix_in hc⟩) hq')
    have lim : s2.heap.NoLimit := e1.mod.nolimit.keeps fun b o e => (e1.bs b o e).1
    obtain ⟨pm, ctv, ho⟩ := lamO_at e0.hok (a f _ (keepP f _ hf))
    have hco := codeO_at e0.hok (a F.c _ (keepP F.c _ hc))
    refine PySem.W.kla_callFunE hr.depth ho rfl S.co S.gen rfl hco ?_
    rw [hbind]
    refine wpAny_pure (wpAny_newFunctionEnv S.nocell (fun y hy => absurd hy (by simp)) (fun h₁ hns hsb => ⟨lim.fresh _ hsb, ?_⟩) S.kind)
    show codeAny _ _ (.expr body (envF F f s2.heap.objs.size)) _ _
    have kp : ∀ b o, s2.heap.get? b = some o → h₁.get? b = some o := fun b o e => hsb.extBut b o (Nat.ne_of_lt (Heap.lt_size e)) (Heap.get?_push_of_some _ e)
    have J : Inv (ncx (L2N.CX X.prog X.w) X.prog X.w X.K X.mg X.base fr F f A outer s2 (mix (celA F.cl) HN H2) (fun cls d H' => (∀ c ∈ celA F.cl, H' c = none) → E cls d (mix (celA F.cl) H2 H'))) [] (startF fr [] (js.map (slotAt σ))) (mix (celA F.cl) HN H2) { s2 with heap := h₁, toks := s2.toks + ([] : List (Str × Value)).length } :=
      inv_startN (us := []) (vs := []) S hr.hd e1 rfl .nil C hns kp
    refine PySem.W.kla_codeExpr (wpAny_mono ((hbody A outer s2 _ _ (hr.deeper _)).run [] _ _ _ _ J hq) (fun v s' hq2 => ?_) fun e s' hq2 => hq2)
    obtain ⟨w', H', J', rv, q⟩ := hq2
    exact ⟨w', H', J'.os, J'.bare, J'.base, J'.hok, rv, q⟩
end
end LV
end
section
set_option Elab.async false
set_option linter.all false
set_option maxRecDepth 100000
set_option maxHeartbeats 2000000
/-! while an exception is handled: a list's end, a tuple unpacked, a list comprehension -/
namespace LHot
open PySem PySem.Spec PyProof.Rows HotX
section
variable {prog : Program} {w : World} {A : Around} {E : Value → Shared → Prop} {s : Shared}
theorem pyNext_list_end_hot {it l x1 : Addr} {i : Nat} {items} {Q : Option Value → Shared → Prop} (hot : HotAt A x1 s.heap) (hne : x1 ≠ it)
    (hit : s.heap.IsListIter it l i) (hl : s.heap.IsList l items) (hx : items[i]? = none)
    (hQ : ∀ h', Heap.ExtBut it s.heap h' → Q none { s with heap := h' }) : wpAny (model prog w) A (pyNext (.ref it)) Q E s := by
  obtain ⟨o, ho, hc, hd⟩ := id hit
  obtain ⟨ol, hol, _, nl, hdl⟩ := hl
  obtain ⟨hh, o1, vs1, h1, d1, c1⟩ := hot
  unfold pyNext
  refine wpAny_bind (wpAny_attempt (wpAny_callSpecial?_slot (name := Str.ofString "__next__") hit.typeIs slot_listiter_next
    (wpAny_call_entry slot_listiter_next hit.typeIs entry_listiter_next ?_ (args_listiter_next _))))
  show wpAny _ _ (field (.ref it) 0 >>= _) _ _ s
  refine wpAny_bind (wpAny_field ho hd (x := .ref l) rfl ?_)
  show wpAny _ _ (if (Value.ref l == Value.none) = true then _ else _) _ _ s
  rw [if_neg (show ¬ ((Value.ref l == Value.none) = true) from Bool.false_ne_true)]
  show wpAny _ _ (field (.ref it) 1 >>= _) _ _ s
  refine wpAny_bind (wpAny_field ho hd (x := .int i 0) rfl ?_)
  show wpAny _ _ (seqItems? (.ref l) >>= _) _ _ s
  refine wpAny_bind (wpAny_seqItems hol hdl ?_)
  simp only [Int.toNat_natCast, hx]
  refine wpAny_bind (wpAny_rule (wpAny_bind (wpAny_setField ho hd (by simp) ?_)))
  have hu : ∀ b o, b ≠ it → s.heap.get? b = some o → (s.heap.update it (Obj.mapFields (·.setIfInBounds 0 .none))).get? b = some o := fun b o hb e => by
    rw [Heap.get?_update_other _ _ (Ne.symm hb)]; exact e
  show wpAny _ _ (newExc (.type "StopIteration") [] >>= _) _ _ _
  refine wpAny_bind ?_
  simp only [newExc, newTuple]
  refine wpAny_bind (wpAny_newObj_type ?_ (by size_fits))
  refine wpAny_bind (m := firstArgMember _ _) (wpAny_of_eq (a := Value.none) (by first | rfl | (simp only [firstArgMember]; rfl)) ?_)
  refine wpAny_newObj_type ?_ (by size_fits)
  have h1' := Heap.get?_push_of_some { cls := .type "tuple", data := .seq ([] : List Value).toArray } (hu x1 o1 hne h1)
  refine raiseNew_hot ⟨hh, o1, vs1, Heap.get?_push_of_some _ (Heap.get?_push_of_some _ (hu x1 o1 hne h1)), d1, c1⟩ (Nat.ne_of_lt (Heap.lt_size (Heap.get?_push_of_some _ (hu x1 o1 hne h1)))) (Heap.get?_push_size _ rfl) rfl (by first | (simp; done) | (simp; omega) | (simp only [Array.size_append]; simp; omega)) ?_
  refine wpAny_bind (wpAny_isInstance (T := "StopIteration") (b := true) ⟨_, Heap.get?_update_self _ (Heap.get?_push_size _ rfl) rfl, rfl⟩ isSubtype_stop ?_)
  refine wpAny_pure (hQ _ fun b o hb e => ?_)
  rw [Heap.get?_update_other _ _ (Nat.ne_of_gt (Heap.lt_size (Heap.get?_push_of_some _ (hu b o hb e))))]
  exact Heap.get?_push_of_some _ (Heap.get?_push_of_some _ (hu b o hb e))
theorem next_tuple_end_hot {it t x1 : Addr} {i : Nat} {items} {Q : Option Value → Shared → Prop} (hot : HotAt A x1 s.heap) (hne : x1 ≠ it)
    (hit : IsTupIter s.heap it t i) (ht : IsTup s.heap t items) (hx : items[i]? = none)
    (hQ : ∀ h', Heap.ExtBut it s.heap h' → Q none { s with heap := h' }) : wpAny (model prog w) A (pyNext (.ref it)) Q E s := by
  obtain ⟨o, ho, hc, hd⟩ := id hit
  obtain ⟨ol, hol, _, nl, hdl⟩ := ht
  obtain ⟨hh, o1, vs1, h1, d1, c1⟩ := hot
  unfold pyNext
  refine wpAny_bind (wpAny_attempt (wpAny_callSpecial?_slot (name := Str.ofString "__next__") hit.typeIs slot_tupleiter_next
    (wpAny_call_entry slot_tupleiter_next hit.typeIs entry_tupleiter_next ?_ (args_tupleiter_next _))))
  show wpAny _ _ (field (.ref it) 0 >>= _) _ _ s
  refine wpAny_bind (wpAny_field ho hd (x := .ref t) rfl ?_)
  show wpAny _ _ (if (Value.ref t == Value.none) = true then _ else _) _ _ s
  rw [if_neg (show ¬ ((Value.ref t == Value.none) = true) from Bool.false_ne_true)]
  show wpAny _ _ (field (.ref it) 1 >>= _) _ _ s
  refine wpAny_bind (wpAny_field ho hd (x := .int i 0) rfl ?_)
  show wpAny _ _ (seqItems? (.ref t) >>= _) _ _ s
  refine wpAny_bind (wpAny_seqItems hol hdl ?_)
  simp only [Int.toNat_natCast, hx]
  refine wpAny_bind (wpAny_rule (wpAny_bind (wpAny_setField ho hd (by simp) ?_)))
  have hu : ∀ b o, b ≠ it → s.heap.get? b = some o → (s.heap.update it (Obj.mapFields (·.setIfInBounds 0 .none))).get? b = some o := fun b o hb e => by
    rw [Heap.get?_update_other _ _ (Ne.symm hb)]; exact e
  show wpAny _ _ (newExc (.type "StopIteration") [] >>= _) _ _ _
  refine wpAny_bind ?_
  simp only [newExc, newTuple]
  refine wpAny_bind (wpAny_newObj_type ?_ (by size_fits))
  refine wpAny_bind (m := firstArgMember _ _) (wpAny_of_eq (a := Value.none) (by first | rfl | (simp only [firstArgMember]; rfl)) ?_)
  refine wpAny_newObj_type ?_ (by size_fits)
  refine raiseNew_hot ⟨hh, o1, vs1, Heap.get?_push_of_some _ (Heap.get?_push_of_some _ (hu x1 o1 hne h1)), d1, c1⟩ (Nat.ne_of_lt (Heap.lt_size (Heap.get?_push_of_some _ (hu x1 o1 hne h1)))) (Heap.get?_push_size _ rfl) rfl (by first | (simp; done) | (simp; omega) | (simp only [Array.size_append]; simp; omega)) ?_
  refine wpAny_bind (wpAny_isInstance (T := "StopIteration") (b := true) ⟨_, Heap.get?_update_self _ (Heap.get?_push_size _ rfl) rfl, rfl⟩ isSubtype_stop ?_)
  refine wpAny_pure (hQ _ fun b o hb e => ?_)
  rw [Heap.get?_update_other _ _ (Nat.ne_of_gt (Heap.lt_size (Heap.get?_push_of_some _ (hu b o hb e))))]
  exact Heap.get?_push_of_some _ (Heap.get?_push_of_some _ (hu b o hb e))
theorem unpackItems_tuple_hot {t x1 : Addr} {items : Array Value} {Q : List Value → Shared → Prop} (hot : HotAt A x1 s.heap) (ht : IsTup s.heap t items)
    (hQ : ∀ h', Heap.ExtBut s.heap.objs.size s.heap h' → Q items.toList { s with heap := h' }) : wpAny (model prog w) A (unpackItems (.ref t) items.size none) Q E s := by
  have hlt : t ≠ s.heap.objs.size := by obtain ⟨o, ho, _⟩ := ht; exact Nat.ne_of_lt (Heap.lt_size ho)
  obtain ⟨hh, o1, vs1, h1, d1, c1⟩ := hot
  have hlx : x1 ≠ s.heap.objs.size := Nat.ne_of_lt (Heap.lt_size h1)
  unfold unpackItems
  refine wpAny_bind ?_
  · unfold notIterableAtAll
    refine wpAny_bind (wpAny_specialOf ht.typeIs slot_tuple_iter.lookup ?_)
    refine wpAny_pure ?_
    simp only [Bool.false_eq_true, if_false]
    refine wpAny_bind (wpAny_holding (iter_tuple ht ?_))
    refine wpAny_bind (wpAny_holding (draw_tuple hlt items.size 0 _ _ ⟨_, Heap.get?_push_size _ rfl, rfl, rfl⟩ (ht.push _) (by omega) fun h₁ hit₁ hs₁ => ?_))
    have hall : List.take items.size (List.drop 0 items.toList) = items.toList := by
      rw [List.drop_zero]; exact List.take_of_length_le (by simp)
    rw [hall]
    rw [if_neg (by simp)]
    have ht₁ : IsTup h₁ t items := (ht.push _).extBut hs₁.extBut hlt
    refine wpAny_bind (wpAny_holding (next_tuple_end_hot ⟨hh, o1, vs1, hs₁.extBut x1 o1 hlx (Heap.get?_push_of_some _ h1), d1, c1⟩ hlx hit₁ ht₁ (by simp) fun h₂ he₂ => ?_))
    simp only [Option.isSome_none, Bool.false_eq_true, if_false]
    refine wpAny_pure (hQ h₂ fun b o hb e => he₂ b o hb (hs₁.extBut b o hb (Heap.get?_push_of_some _ e)))
theorem assign_Tuple_tuple_hot {env : Env} {elts : List Expr} {n1} {pos : Pos} {t x1 : Addr} {items : Array Value} {Q : Unit → Shared → Prop} (hot : HotAt A x1 s.heap) (ht : IsTup s.heap t items)
    (hn : (assignEach elts env).length = items.size) (hstar : (assignEach elts env).findIdx? (·.1) = none)
    (h : ∀ h', Heap.ExtBut s.heap.objs.size s.heap h' → wpAny (model prog w) A (assignInOrder ((assignEach elts env).map (·.2)) items.toList) Q E { s with heap := h' }) :
    wpAny (model prog w) A (assign (.Tuple elts n1 pos) env (.ref t)) Q E s := by
  rw [assign_Tuple]
  refine wpAny_bind (wpAny_standAt ?_)
  unfold unpack
  rw [hn, hstar]
  exact wpAny_bind (wpAny_holding (unpackItems_tuple_hot hot ht h))
end
end LHot
end
section
set_option Elab.async false
set_option linter.all false
set_option maxRecDepth 100000
set_option maxHeartbeats 4000000
/-! a list comprehension over a list, while an exception is handled -/
namespace LHot
open PySem PySem.Spec PyProof.Rows HotX L2 L2H
abbrev St := L2.St
/-- wherever X stands, the exception that is handled stands there, its context None -/
def HotB (X : Cx) : Prop := ∀ (pins : List (Addr × Obj)) (σ : St) (H : Hp) (s : Shared), Inv X pins σ H s → ∃ x1, HotAt X.A x1 s.heap ∧ H x1 = none ∧ x1 ∉ frs X.stack ∧ ∀ b, FpOk X pins H b → x1 ≠ b
theorem hotB_of {X : Cx} (c : HotC X) : HotB X := fun pins σ H s I => by
  obtain ⟨p, ⟨hh, v1, e1, c1⟩, hp⟩ := c
  have P := I.pin p (List.mem_append_left _ hp)
  exact ⟨p.1, ⟨hh, p.2, v1, P.1, e1, c1⟩, P.2.1, fun hm => (List.mem_cons.mp (I.stkSub p.1 hm)).elim P.2.2.1 P.2.2.2.1, fun b f => f.2.2.2.2.2 p (List.mem_append_left _ hp)⟩
theorem hotB_blk {X : Cx} {pins : List (Addr × Obj)} {σ : St} {H : Hp} {s : Shared} {scope : Scope} {cenv : Env} {fp : List Addr} (hc : HotB X) (I : Inv X pins σ H s) (hfp : ∀ b ∈ fp, FpOk X pins H b ∧ b < s.heap.objs.size) : HotB (X.blk s H scope cenv fp) := fun pins' σ' H' s' J => by
  obtain ⟨x1, ⟨hh, o1, v1, h1, d1, c1⟩, n, nf, ne⟩ := hc pins σ H s I
  have nx : x1 ∉ fp := fun z => ne x1 (hfp x1 z).1 rfl
  refine ⟨x1, ⟨hh, o1, v1, J.base.keep x1 o1 h1 n nf nx, d1, c1⟩, J.base.free x1 o1 h1 n nx, nf, fun b f z => ?_⟩
  subst z
  rcases f.2.2.2.1 with q | q
  · exact nx q
  · exact absurd (Nat.lt_of_lt_of_le (Heap.lt_size h1) q) (Nat.lt_irrefl _)
structure TurnB (P : Program) (w : World) (K : PySem.W.Frag) (tg : Expr) (J : It) (fp : List Addr) (it : Addr) (tn : Nat → Heap → Prop) : Prop where
  mem : it ∈ fp
  obj : ∀ i h, tn i h → ∀ b ∈ fp, ∃ o, h.get? b = some o ∧ ∀ v, o.data ≠ .cell v
  keep : ∀ i h h', tn i h → (∀ b ∈ fp, ∀ o, h.get? b = some o → h'.get? b = some o) → tn i h'
  item : ∀ (X : Cx), X.prog = P → X.w = w → X.K = K → HotB X → ∀ (i : Nat) (pins : List (Addr × Obj)) (s : Shared) (σ : St) (H : Hp) (E : Value → Shared → Prop), Inv X pins σ H s → (∀ b ∈ fp, FpOk X pins H b) → tn i s.heap → J.go i H →
    wpAny (model P w) X.A (pyNext (.ref it)) (fun r s1 => ∃ u, r = some u ∧
      wpAny (model P w) X.A (letOwnedTupleGo tg (.ref it) u) (fun _ s2 => ∃ x H', Inv X pins σ H' s2 ∧ RelV x u ∧ J.yld i H x H' ∧ tn (i + 1) s2.heap ∧ ∀ b ∈ fp, H' b = none) E s1) E s
  done : ∀ (X : Cx), X.prog = P → X.w = w → X.K = K → HotB X → ∀ (i : Nat) (pins : List (Addr × Obj)) (s : Shared) (σ : St) (H : Hp) (E : Value → Shared → Prop), Inv X pins σ H s → (∀ b ∈ fp, FpOk X pins H b) → tn i s.heap → J.stop i H →
    wpAny (model P w) X.A (pyNext (.ref it)) (fun r s1 => r = none ∧ Inv X pins σ H s1) E s
  self : ∀ (A : Around) (i : Nat) (s : Shared) (Q : Value → Shared → Prop) (E : Value → Shared → Prop), tn i s.heap → Q (.ref it) s → wpAny (model P w) A (pyIter (.ref it)) Q E s
def PIEB (X : Cx) (pins : List (Addr × Obj)) (σ : St) (tg : Expr) (R : It → Hp → Prop) (itv : Value) (s2 : Shared) : Prop :=
  ∃ (it : Addr) (fp : List Addr) (tn : Nat → Heap → Prop) (J : It) (H' : Hp), itv = .ref it ∧ Inv X pins σ H' s2 ∧ TurnB X.prog X.w X.K tg J fp it tn ∧ tn 0 s2.heap ∧ (∀ b ∈ fp, FpOk X pins H' b) ∧ R J H'
structure PIB (X : Cx) (tg iter : Expr) (wi : TI) : Prop where
  run : ∀ (pins : List (Addr × Obj)) (s : Shared) (σ : St) (H : Hp) (R : It → Hp → Prop), Inv X pins σ H s → wi σ H R →
    wpAny (model X.prog X.w) X.A (eval iter X.env) (fun v s1 => wpAny (model X.prog X.w) X.A (pyIter v) (PIEB X pins σ tg R) X.xe s1) X.xe s
theorem turn_listB {P : Program} {w : World} {K : PySem.W.Frag} {tg : Expr} (a it : Addr) : TurnB P w K tg (Itl K a) [it] it (fun i h => h.IsListIter it a i) where
  mem := (turn_list (P := P) (w := w) (K := K) (tg := tg) a it).mem
  obj := (turn_list (P := P) (w := w) (K := K) (tg := tg) a it).obj
  keep := (turn_list (P := P) (w := w) (K := K) (tg := tg) a it).keep
  item := by
    intro X hP hw hK _ i pins s σ H E I hf st hg
    subst hP hw hK
    obtain ⟨xs, x, hq, hx⟩ := hg
    obtain ⟨its, rv, p, hz⟩ := I.list hq
    obtain ⟨u, hu, ru⟩ := rv.get hx
    obtain ⟨f0, f1, f2, f3, f4, f5⟩ := hf it (by simp)
    refine wpAny_pyNext_list_item st p.isList (x := u) (by simpa using hu) fun h' st' sb => ?_
    have I1 : Inv X pins σ H { s with heap := h' } := I.turned (t' := s.toks) (fun b o hb e => (sb.2 b hb).trans e) f0 f1 f3 f4 f5
    obtain ⟨o, e, c, d⟩ := id st'
    exact ⟨u, rfl, go_of (s := { s with heap := h' }) e c d (by decide) ⟨x, H, I1, ru, ⟨rfl, fun ys hy => by rw [I.list_inj hy hq]; exact hx⟩, st', fun b hb => (hf b hb).1⟩⟩
  done := by
    intro X hP hw hK hc i pins s σ H E I hf st hg
    subst hP hw hK
    obtain ⟨xs, hq, hx⟩ := hg
    obtain ⟨its, rv, p, hz⟩ := I.list hq
    have fi := hf it (by simp)
    obtain ⟨f0, f1, f2, f3, f4, f5⟩ := id fi
    have hl := rv.length
    obtain ⟨x1, hot, _, _, ne⟩ := hc pins σ H s I
    exact pyNext_list_end_hot hot (ne it fi) st p.isList (by simp; omega) fun h' eb => ⟨rfl, I.turned (t' := s.toks) (fun b o hb e => eb b o hb e) f0 f1 f3 f4 f5⟩
  self := (turn_list (P := P) (w := w) (K := K) (tg := tg) a it).self
section
variable {X : Cx} {tg : Expr}
theorem pi_listB {l : Expr} {tl : TE} (hl : PE X l tl) : PIB X tg l (iList X.K tl) := by
  refine ⟨fun pins s σ H R I h => ?_⟩
  refine thn (hl.run pins s σ H _ I h) fun v s1 ⟨x, H1, I1, r1, q1⟩ => ?_
  obtain ⟨a, e, ⟨xs, hq⟩, q⟩ := q1
  subst e
  cases r1
  obtain ⟨its, rv, p, hz⟩ := I1.list hq
  refine wpAny_pyIter_list p.isList ?_
  refine ⟨s1.heap.objs.size, [s1.heap.objs.size], _, _, H1, rfl, I1.kept (t' := s1.toks) fun b o e => Heap.get?_push_of_some _ e, turn_listB a _, ⟨_, Heap.get?_push_size _ rfl, rfl, rfl⟩, fun b hb => ?_, q⟩
  have e : b = s1.heap.objs.size := by simpa using hb
  subst e
  exact I1.fpOk (Nat.le_refl _) (I1.hok.fresh (Nat.le_refl _))
theorem pg_tupB {es : List Expr} {k : Nat} {t : TGs} {n : Nat} {pos : Pos} (hc : HotB X) (h : PGs X es t)
    (hn : (assignEach es X.env).length = n := by rfl) (hst : (assignEach es X.env).findIdx? (·.1) = none := by rfl) : PG X (.Tuple es k pos) (gTup X.K n t) := by
  refine ⟨fun pins s σ H v u Q I r hw => ?_⟩
  obtain ⟨a, xs, e1, hq, hl, hw⟩ := hw
  subst e1
  cases r
  obtain ⟨its, rv, ht, hz⟩ := I.tuple hq
  obtain ⟨x1, hot, _, _, _⟩ := hc pins σ H s I
  refine assign_Tuple_tuple_hot hot ht (by simp [hn, ← hl, rv.length]) hst fun h' hx => ?_
  have I1 : Inv X pins σ H { s with heap := h' } := I.kept (t' := s.toks) fun b o e => hx b o (Nat.ne_of_lt (Heap.lt_size e)) e
  exact h.run pins _ σ H xs _ Q I1 (by simpa using rv) hw
end
section
variable {X : Cx}
theorem lc_hot {pins : List (Addr × Obj)} {s : Shared} {σ : St} {H : Hp} {Q : VK} {elt tg iter : Expr} {ifs : List Expr} {scope : Scope} {own : List (Str × Nat)} {pos pos' : Pos} {wi : TI} {g : TG} {tt : TT} {te : TE} {use : Option (Value → Sem Unit)} {Qf : Value → Shared → Prop}
    (hc : HotB X) (hN : X.N.Nodup) (I : Inv X pins σ H s) (hi : PIB X tg iter wi) (ok : BlkOk X.N X.env.scope scope own)
    (hg : ∀ (s : Shared) (H : Hp) (C : Addr) (cl : List (Str × Addr)) (fp : List Addr), HotB (X.blk s H scope (compEnvC scope cl C X.env) fp) → PG (X.blk s H scope (compEnvC scope cl C X.env) fp) tg g) (ht : ∀ (s : Shared) (H : Hp) (C : Addr) (cl : List (Str × Addr)) (fp : List Addr), PTs (X.blk s H scope (compEnvC scope cl C X.env) fp) ifs tt)
    (he : ∀ (s : Shared) (H : Hp) (C : Addr) (cl : List (Str × Addr)) (fp : List Addr), PE (X.blk s H scope (compEnvC scope cl C X.env) fp) elt te) (hs : ∀ x, foldedSetIterable iter X.env x = pure x)
    (h : tLc wi g tt te (own.map (·.2)) σ H Q)
    (hRR : ∀ D C s' m H', Inv X pins σ H' s' → Q (.ref D) H' → s'.heap.Ns C m → FpOk X pins H' C → compPost (model X.prog X.w) X.A X.xe use Qf (.ref D) C (.ok .next) s') :
    wpAny (model X.prog X.w) X.A (comprehension (.ListComp elt [⟨tg, iter, ifs, 0⟩] scope pos) scope X.env pos' (newList []) false (eval iter X.env) use) Qf X.xe s := by
  have hfree : ∀ y ∈ scope.names, y.2 = .free → ∃ c, X.env.cells.lookup y.1 = some c := fun y hy e => by
    rcases ok.free y hy e with k | k
    · exact I.ok.has _ (.inl k)
    · exact I.ok.has _ (.inr k)
  refine wpAny_comprehension_free (use := use) rfl hs (closure_ok hfree) ok.kind (fun y hy e => by rw [ok.uniq y hy, e])
    (thn (hi.run pins s σ H _ I h) fun xv s1 hx => thn hx fun itv s2 h2 => ?_)
  obtain ⟨it, fp, tn, J, H2, e, I2, T, st2, f2, q⟩ := h2
  subst e
  refine wpAny_newObj_type (newEnv_comp ?_) (by show 0 ≤ sizeLine; decide)
  generalize hD : s2.heap.objs.size = D
  have hDn : H2 D = none := I2.hok.fresh (Nat.le_of_eq hD)
  obtain ⟨W, ⟨m0, w0⟩, turn⟩ := q D hDn
  -- the new list
  generalize hs3 : ({ s2 with heap := s2.heap.push { cls := .type "list", data := .seq ([] : List Value).toArray } } : Shared) = s3
  have I3 : Inv X pins σ (upd H2 D (.lst [])) s3 := by
    rw [← hs3]
    refine I2.laid (t' := s2.toks) (fun b o e => Heap.get?_push_of_some _ e) (Nat.le_of_eq hD) ⟨Nat.zero_le _, [], 0, .nil, ?_⟩
    rw [← hD]
    exact Heap.get?_push_size _ rfl
  have h3 : s3.heap = s2.heap.push { cls := .type "list", data := .seq ([] : List Value).toArray } := by rw [← hs3]
  have sz : ∀ b ∈ fp, b < s2.heap.objs.size := fun b hb => by
    obtain ⟨o, e, _⟩ := T.obj _ _ st2 b hb
    exact Heap.lt_size e
  have f3 : ∀ b ∈ fp, FpOk X pins (upd H2 D (.lst [])) b ∧ b < s3.heap.objs.size := fun b hb => by
    have hlt := sz b hb
    refine ⟨⟨?_, (f2 b hb).2⟩, by rw [h3, Heap.size_push]; exact Nat.lt_succ_of_lt hlt⟩
    rw [upd_ne (by rw [← hD]; exact Nat.ne_of_lt hlt)]
    exact (f2 b hb).1
  have st3 : tn 0 s3.heap := T.keep _ _ _ st2 fun b _ o e => by rw [h3]; exact Heap.get?_push_of_some _ e
  have I4 := block_start I3 ok hN f3
  have hb := hotB_blk (scope := scope) (cenv := compEnvC scope (cellsFrom (s3.heap.objs.size + 1) scope.names (cloFrom X.env.cells scope.names [])) s3.heap.objs.size X.env) hc I3 f3
  have pg := hg s3 (upd H2 D (.lst [])) s3.heap.objs.size (cellsFrom (s3.heap.objs.size + 1) scope.names (cloFrom X.env.cells scope.names [])) fp hb
  have pt := ht s3 (upd H2 D (.lst [])) s3.heap.objs.size (cellsFrom (s3.heap.objs.size + 1) scope.names (cloFrom X.env.cells scope.names [])) fp
  have pe := he s3 (upd H2 D (.lst [])) s3.heap.objs.size (cellsFrom (s3.heap.objs.size + 1) scope.names (cloFrom X.env.cells scope.names [])) fp
  show codeAny _ _ (.compStart (.ListComp elt [⟨tg, iter, ifs, 0⟩] scope pos) 0 (.ref it) (.ref D) (compEnvC scope (cellsFrom (s3.heap.objs.size + 1) scope.names (cloFrom X.env.cells scope.names [])) s3.heap.objs.size X.env)) (compPost (model X.prog X.w) X.A X.xe use Qf (.ref D) s3.heap.objs.size) { s3 with heap := pushCells (s3.heap.push { cls := .type "dict", data := .dict #[] }) scope.names }
  have nfp : ∀ b ∈ fp, (upd H2 D (.lst [])) b = none := fun b hb => (f3 b hb).1.1
  generalize hce : compEnvC scope (cellsFrom (s3.heap.objs.size + 1) scope.names (cloFrom X.env.cells scope.names [])) s3.heap.objs.size X.env = ce at I4 pg pt pe hb ⊢
  have cL : ce.locals = s3.heap.objs.size := by subst hce; rfl
  generalize hH3 : upd H2 D (.lst []) = H3 at I3 I4 pg pt pe hb w0 nfp f3
  generalize hs4 : ({ s3 with heap := pushCells (s3.heap.push { cls := .type "dict", data := .dict #[] }) scope.names } : Shared) = s4 at I4 ⊢
  have st4 : tn 0 s4.heap := T.keep _ _ _ st3 fun b _ o e => by rw [← hs4]; exact pushCells_keeps _ _ _ _ (Heap.get?_push_of_some _ e)
  have stat : ∀ {σ' : St} {H' : Hp} {s' : Shared}, Inv (X.blk s3 H3 scope ce fp) [] σ' H' s' → (∀ b ∈ fp, H' b = none) → ∀ b ∈ fp, FpOk (X.blk s3 H3 scope ce fp) [] H' b := fun {σ' H' s'} I' hn b hb =>
    ⟨hn b hb, (I'.ok.exf b hb).1, I'.ok.exfs b hb, .inl hb, fun x c e => (I'.ok.exf b hb).2 x c e, fun p hp => absurd (show p ∈ ([] : List (Addr × Obj)) ++ [] from hp) (by simp)⟩
  have loop : codeAny (model X.prog X.w) X.A (.compLoop (.ListComp elt [⟨tg, iter, ifs, 0⟩] scope pos) 0 (.ref it) (.ref D) ce) (compPost (model X.prog X.w) X.A X.xe use Qf (.ref D) s3.heap.objs.size) s4 := by
    refine compLoop_any (fun n s' => ∃ i H', Inv (X.blk s3 H3 scope ce fp) [] (wipe σ (own.map (·.2))) H' s' ∧ tn i s'.heap ∧ (∀ b ∈ fp, H' b = none) ∧ W i n H') ?_ m0 ⟨0, H3, I4, st4, nfp, w0⟩
    rintro n s5 ⟨i, H5, I5, st5, n5, w5⟩
    rcases turn i n H5 w5 with ⟨stop, qq⟩ | ⟨go, Nx, hNx, step⟩
    · have td := T.done (X.blk s3 H3 scope ce fp) rfl rfl rfl hb i [] s5 _ H5 (fun _ _ => False) I5 (stat I5 n5) st5 stop
      refine thnF td fun r s6 ⟨hr, I6⟩ => ?_
      subst hr
      -- back in the def's context
      have I7 : Inv X pins σ H5 s6 := I3.call' (ch := fp) I6.os I6.base I6.hok I6.bare fun b hb => ⟨(f3 b hb).1.2.2.2.1, (f3 b hb).1.2.1, (f3 b hb).1.2.2.2.2.1, (f3 b hb).1.2.2.2.2.2⟩
      have nC : H5 s3.heap.objs.size = none := by
        have z : H5 ce.locals = none := I6.free
        rw [cL] at z
        exact z
      obtain ⟨m, hn, _⟩ := I6.loc
      have hn : s6.heap.Ns ce.locals m := hn
      rw [cL] at hn
      exact hRR D s3.heap.objs.size s6 m H5 I7 qq hn (I3.fpOk (Nat.le_refl _) nC)
    · have ti := T.item (X.blk s3 H3 scope ce fp) rfl rfl rfl hb i [] s5 _ H5 (fun _ _ => False) I5 (stat I5 n5) st5 go
      refine thnF ti fun r s6 ⟨u, hr, h6⟩ => ?_
      subst hr
      refine thnF h6 fun _ s7 ⟨x, H7, I7, r7, y7, st7, n7⟩ => ?_
      have I7' := I7.pinned (stat I7 n7) (T.obj _ _ st7)
      refine thnF (pg.run _ s7 _ H7 x u _ I7' r7 (step x H7 y7)) fun _ s8 ⟨σ8, H8, I8, hw8, q8⟩ => ?_
      refine thnF (pt.run _ s8 σ8 H8 _ I8 q8) fun b s9 ⟨H9, I9, q9⟩ => ?_
      -- the turn's end
      have fin : ∀ {s' : Shared} {H' : Hp}, Inv (X.blk s3 H3 scope ce fp) ([] ++ pinsAt fp s7.heap) σ8 H' s' → Nx H' → ∃ m, m < n ∧ ∃ i H', Inv (X.blk s3 H3 scope ce fp) [] (wipe σ (own.map (·.2))) H' s' ∧ tn i s'.heap ∧ (∀ b ∈ fp, H' b = none) ∧ W i m H' := fun {s' H'} I' nx => by
        obtain ⟨m', hm, w'⟩ := hNx H' nx
        have pin' : ∀ b ∈ fp, ∀ o, s7.heap.get? b = some o → s'.heap.get? b = some o ∧ H' b = none := fun b hb o e =>
          let z := I'.pin (b, o) (List.mem_append_right _ (List.mem_append_right _ (mem_pinsAt hb e)))
          ⟨z.1, z.2.1⟩
        have hl : (wipe σ (own.map (·.2))).length = σ8.length := by rw [← hw8, wipe_length]
        refine ⟨m', hm, i + 1, H', (I'.unpinned (pins := [])).weak hl (fun j v e => ?_), T.keep _ _ _ st7 fun b hb o e => (pin' b hb o e).1, fun b hb => ?_, w'⟩
        · rw [← hw8] at e
          exact (wipe_some e).1
        · obtain ⟨o, e, _⟩ := T.obj _ _ st7 b hb
          exact (pin' b hb o e).2
      cases b with
      | false =>
        simp only [Bool.false_eq_true, if_false] at q9 ⊢
        exact fin I9 q9
      | true =>
        simp only [if_true] at q9 ⊢
        refine thnF (pe.run _ s9 σ8 H9 _ I9 q9) fun z s10 ⟨yv, H10, I10, r10, acc, hD10, hz10, nx⟩ => ?_
        exact app_ok (X := X.blk s3 H3 scope ce fp) I10 hD10 hz10 r10 fun s11 I11 => fin I11 nx
  exact codeAny_compStart_list loop (T.self X.A 0 _ _ _ st4 loop)
theorem pe_lcB {elt tg iter : Expr} {ifs : List Expr} {scope : Scope} {own : List (Str × Nat)} {pos : Pos} {wi : TI} {g : TG} {tt : TT} {te : TE} (hc : HotB X) (hN : X.N.Nodup) (hi : PIB X tg iter wi) (ok : BlkOk X.N X.env.scope scope own)
    (hg : ∀ (s : Shared) (H : Hp) (C : Addr) (cl : List (Str × Addr)) (fp : List Addr), HotB (X.blk s H scope (compEnvC scope cl C X.env) fp) → PG (X.blk s H scope (compEnvC scope cl C X.env) fp) tg g) (ht : ∀ (s : Shared) (H : Hp) (C : Addr) (cl : List (Str × Addr)) (fp : List Addr), PTs (X.blk s H scope (compEnvC scope cl C X.env) fp) ifs tt)
    (he : ∀ (s : Shared) (H : Hp) (C : Addr) (cl : List (Str × Addr)) (fp : List Addr), PE (X.blk s H scope (compEnvC scope cl C X.env) fp) elt te) (hs : ∀ x, foldedSetIterable iter X.env x = pure x := by intro _; rfl) :
    PE X (.ListComp elt [⟨tg, iter, ifs, 0⟩] scope pos) (tLc wi g tt te (own.map (·.2))) := by
  refine ⟨fun pins s σ H Q I h => ?_⟩
  rw [eval_ListComp]
  refine lc_hot hc hN I hi ok hg ht he hs h fun D C s' m H' I' q hn f => ⟨m, hn, fun h'' sb => ?_⟩
  obtain ⟨f0, f1, f2, f3, f4, f5⟩ := f
  exact ⟨.ref D, H', I'.turned (t' := s'.toks) (fun b o hb e => (sb.2 b hb).trans e) f0 f1 f3 f4 f5, rfl, q⟩
end
end LHot
end
section
set_option Elab.async false
set_option linter.all false
set_option maxRecDepth 100000
set_option maxHeartbeats 4000000
/-! the exception that is handled, handed to defs of one's own: isinstance, its fields -/
namespace PySem.W
open PySem PySem.Spec PySem.Calls PyProof.Rows
section
variable {prog : Program} {w : World} {A : Around} {E : Value → Shared → Prop} {s : Shared} {K : Frag} {x D : Addr} {ox : Obj}
theorem findObj_dataX {C : Addr} {od : Option Obj} {name : Str} {a g : Value} (hc : (clsIn K C).isSome = true) (ha : findIn K (.ref C) name = some (some a)) (hg : specialIn K a "__get__" = some (some g)) (ht : takesIn K a = some true) : findObj K C od name = some (.bind g a) := by
  obtain ⟨cd, hc⟩ := Option.isSome_iff_exists.mp hc
  simp [findObj, hc, ha, hg, ht]
theorem kin_classX {od : Option Obj} {Q : Option Value → Shared → Prop} (hga : findIn K (.ref D) "__getattribute__" = some (some (.builtin "BaseException.__getattribute__"))) (hgt : findIn K (.ref D) "__getattr__" = some none) (hsub : subIn K (.ref D) (.type "BaseException") = some true)
    (hdct : hasDictIn K D = true) (ha : findIn K (.ref D) "__class__" = some (some (.builtin "object.__class__")))
    (hn : specialIn K (.builtin "object.__class__") "__get__" = some (some (.builtin "getset_descriptor.__get__"))) (htk : takesIn K (.builtin "object.__class__") = some true) (hm : mroIn K D (.type "object") = some true)
    (X : K.In s.heap) (I : InstAt s.heap x ox D od) (h : Q (some (.ref D)) { s with toks := s.toks + 1 }) : wpAny (model prog w) A (getAttr? (.ref x) "__class__") Q E s := by
  have hf : findObj K D od "__class__" = some (.bind (.builtin "getset_descriptor.__get__") (.builtin "object.__class__")) := findObj_dataX (by obtain ⟨cd, hc, _⟩ := any_some hdct; rw [hc]; rfl) ha hn htk
  obtain ⟨hp, g, d, t, os⟩ := s
  have L0 := I.type (M := model prog w)
  have L1 := looks_findIn (M := model prog w) X hga
  have L2 := looks_findIn (M := model prog w) X hgt
  have L3 := looks_find (M := model prog w) X I hf
  have sub : Looks (model prog w) hp (isInstance (.ref x) (.type "BaseException")) true := L0.andThen (looks_subIn X hsub)
  have hx0 : (false && onTheHeap (Value.builtin "BaseException.__getattribute__")) = false := rfl
  have hx2 : (Value.builtin "BaseException.__getattribute__" == Value.builtin "object.__getattribute__") = false := by decide +kernel
  have hx1 : (onTheHeap (Value.ref D) && Value.builtin "BaseException.__getattribute__" == Value.builtin "object.__getattribute__") = false := by rw [hx2]; rfl
  unfold getAttr? getAttrBy? getAttrBy
  refine wpAny_bind (wpAny_mkText (wpAny_bind (wpAny_attempt (wpAny_holding (wpAny_bind (L0.at (wpAny_bind (L1.at ?_))))))))
  show wpAny _ _ (if (onTheHeap (Value.ref D) && Value.builtin "BaseException.__getattribute__" == Value.builtin "object.__getattribute__") = true then _ else _) _ _ _
  rw [hx1, if_neg Bool.false_ne_true]
  unfold getAttrByItsOwn hookBefore
  refine wpAny_bind ?_
  rw [if_pos (show onTheHeap (Value.ref D) = true from rfl)]
  refine L2.at ?_
  refine wpAny_bind (wpAny_attempt (wpAny_holding ?_))
  unfold callGetattribute
  rw [hx0, if_neg Bool.false_ne_true]
  unfold boundAndCalled
  rw [PySem.F.excAttr_ValueError.ga.bind (.ref x)]
  refine wpAny_bind (wpAny_pure ?_)
  show wpAny _ _ (call (.builtin "BaseException.__getattribute__") [.ref x, .str "__class__" t]) _ _ _
  refine wpAny_call (codeAny_call_builtin PySem.F.excAttr_ValueError.ga.plain PySem.F.entry_bexc_ga ?_)
  refine @check_slot (model prog w) _ _ ⟨hp, g, d, t + 1, os⟩ "BaseException.__getattribute__" "BaseException" "__getattribute__" (.ref x) [.str "__class__" t] [] _ (by decide +kernel) (by decide +kernel) sub (PySem.F.args_bexc_ga (.ref x) (.str "__class__" t)) ?_
  unfold Builtin.«object.__getattribute__»
  refine wpAny_bind (wpAny_of_eq (a := ((Value.ref x : Value), [Value.str "__class__" t])) (by first | rfl | (simp only [slotArgs]; rfl)) ?_)
  refine wpAny_bind (wpAny_pure (wpAny_bind (L0.at (wpAny_bind (L3.at ?_)))))
  show wpAny _ _ (holding [Value.builtin "object.__class__"] (call (.builtin "getset_descriptor.__get__") [.builtin "object.__class__", .ref x, .ref D]) >>= ret) _ _ _
  refine wpAny_bind (wpAny_holding (wpAny_call (class_get (s := ⟨hp, g, d, t + 1, os⟩) (ox := ox) (od := od) X I hm ?_)))
  refine wpAny_pure ?_
  show wpAny _ _ (handedOut (.ref D)) _ _ _
  rw [handedOut_of (v := .ref D) rfl]
  first
    | exact wpAny_pure (wpAny_pure h)
    | exact wpAny_pure h
    | exact wpAny_pure (wpAny_bind (wpAny_pure (wpAny_pure h)))
theorem kitx_exc (hga : findIn K (.ref D) "__getattribute__" = some (some (.builtin "BaseException.__getattribute__"))) (hgt : findIn K (.ref D) "__getattr__" = some none) (hsub : subIn K (.ref D) (.type "BaseException") = some true) (hdct : hasDictIn K D = true) (ha : findIn K (.ref D) "__class__" = some (some (.builtin "object.__class__")))
    (hn : specialIn K (.builtin "object.__class__") "__get__" = some (some (.builtin "getset_descriptor.__get__"))) (htk : takesIn K (.builtin "object.__class__") = some true) (hm : mroIn K D (.type "object") = some true) :
    KitX K (.ref x) (.ref D) (fun h => ∃ od, InstAt h x ox D od) where
  ty := fun _ _ _ ⟨_, I⟩ => I.type
  it := fun _ _ X _ => by
    obtain ⟨cdD, hcD, _⟩ := any_some hdct
    unfold clsIn at hcD
    split at hcD
    · rename_i c' d' cd' sl' ho
      intro A' Q' E' s' k q
      unfold isType loadHead
      exact wpAny_bind (wpAny_loadPart (k _ _ (X _ _ ho)) (wpAny_pure q))
    · cases hcD
  ne := fun h tp dd its n sl X htp => by
    obtain ⟨cdD, hcD, _⟩ := any_some hdct
    refine Bool.eq_false_iff.mpr fun q => ?_
    have e : D = tp := Value.ref.inj (beq_iff_eq.mp q)
    subst e
    unfold clsIn at hcD
    split at hcD
    · rename_i c' d' cd' sl' ho
      have z := (X _ _ ho).symm.trans htp
      cases z
    · cases hcD
  ca := fun X ⟨_, I⟩ k => kin_classX hga hgt hsub hdct ha hn htk hm X I k
end
end PySem.W
namespace LX
open PySem PySem.Spec PyProof.Rows L2 L2H HotX LHot
abbrev St := L2.St
/-- the context bears an exception: where, its class, its own dict -/
def PinE (X : Cx) (a : Addr) (cls : Value) (d : Option Addr) : Prop := ∃ oe : Obj, (a, oe) ∈ X.pn ∧ Zc cls d oe ∧ ∃ vs, oe.data = .fields vs
/-- its dict is known -/
def DicK (H : Hp) (d : Option Addr) : Prop := d = none ∨ ∃ (dd : Addr) (fs : List (Str × V)), d = some dd ∧ H dd = some (.xd fs)
theorem pinE_suite {X : Cx} {a : Addr} {oe : Obj} {pn : List (Addr × Obj)} {cls : Value} {d : Option Addr} (z : Zc cls d oe) (f : ∃ vs, oe.data = .fields vs) : PinE (X.suite a ((a, oe) :: pn)) a cls d := ⟨oe, List.mem_cons_self, z, f⟩
section
variable {X : Cx} {pins : List (Addr × Obj)} {σ : St} {H : Hp} {s : Shared} {a : Addr} {D : Addr} {d : Option Addr}
theorem inst_of {oe : Obj} (I : Inv X pins σ H s) (hp : (a, oe) ∈ X.pn) (hz : Zc (.ref D) d oe) (hf : ∃ vs, oe.data = .fields vs) (hd : DicK H d) : ∃ od, PySem.W.InstAt s.heap a oe D od := by
  obtain ⟨hget, _⟩ := I.pin (a, oe) (List.mem_append_left _ hp)
  obtain ⟨vs, hv⟩ := hf
  rcases hd with e | ⟨dd, fs, e, eh⟩
  · refine ⟨none, ?_⟩
    obtain ⟨oc, odi, oda, osl⟩ := oe
    obtain ⟨h1, h2⟩ := hz
    dsimp only at h1 h2 hv
    subst h1 hv
    rw [e] at h2
    subst h2
    exact ⟨hget, rfl, rfl, trivial⟩
  · have hx : ObjOk X.prog X.w H s.heap dd (.xd fs) := I.hok dd _ eh
    obtain ⟨mA, hns, hr⟩ := hx
    obtain ⟨od, ho, hl⟩ := lookIn_ns hns
    refine ⟨some od, hget, hz.1, by unfold PySem.W.notCls; rw [hv] <;> rfl, ?_⟩
    rw [hz.2, e]
    exact ho
/-- isinstance(e, c) -/
def rIsX (K : PySem.W.Frag) (D a : Addr) (d : Option Addr) : List V → Hp → VK → Prop := fun xs H Q => ∃ (c : V) (cv : Value) (b : Bool), xs = [.ref a, c] ∧ ClsV c cv ∧ PySem.W.kitOne K (.ref D) cv = some b ∧ DicK H d ∧ Q (.bl b) H
theorem call_isX (C : ExcC X.K D) (hp : PinE X a (.ref D) d) : CallR X (.builtin "isinstance") (rIsX X.K D a d) := by
  intro pins s σ H xs us Q I r h
  obtain ⟨c, cv, b, rfl, hcv, e, hd, q⟩ := h
  obtain ⟨u1, u2, rfl, r1, r2⟩ := vals2 r
  cases r1
  have ec := hcv.eq r2
  subst ec
  obtain ⟨oe, hm, hz, hf⟩ := hp
  exact PySem.W.kia_one (PySem.W.kitx_exc C.hg C.hk C.hs C.hd C.ha C.hn C.ht C.hm) I.kIn (inst_of I hm hz hf hd) e (fun z => nomatch z) fun tk => ⟨.bl b, H, I.kept (t' := tk) fun _ _ z => z, rfl, q⟩
/-- e.f -/
def tXF (a : Addr) (d : Option Addr) (f : Str) (te : TE) : TE := fun σ H Q => te σ H fun x H1 => x = .ref a ∧ ∃ (dd : Addr) (fs : List (Str × V)) (v : V), d = some dd ∧ H1 dd = some (.xd fs) ∧ fs.lookup f = some v ∧ Q v H1
theorem pe_xF {e : Expr} {te : TE} {pos : Pos} {n : Str} (T : XfC X.K D) (hno : PySem.W.findIn X.K (.ref D) n = some none) (hp : PinE X a (.ref D) d) (he : PE X e te) (hb : attributeBase e n X.env (eval e X.env) = eval e X.env := by rfl) :
    PE X (.Attribute e n pos) (tXF a d n te) := by
  refine ⟨fun pins s σ H Q I h => ?_⟩
  refine attr_of hb (thn (he.run pins s σ H _ I h) fun u s1 hh => ?_)
  obtain ⟨x, H1, I1, rx, ex, dd, fs, v, ed, ea, l, q⟩ := hh
  subst ex
  obtain rfl : u = Value.ref a := rx
  obtain ⟨oe, hm, hz, vs, hd⟩ := hp
  obtain ⟨ha, _⟩ := I1.pin (a, oe) (List.mem_append_left _ hm)
  have hx : ObjOk X.prog X.w H1 s1.heap dd (.xd fs) := I1.hok dd _ ea
  obtain ⟨mA, hns, hr⟩ := hx
  obtain ⟨od, ho, hl⟩ := lookIn_ns hns
  obtain ⟨u, hu, ru⟩ := RelO.some_of (v := v) (o := mA n) (by rw [← l]; exact hr n)
  have J : PySem.W.InstAt s1.heap a oe D (some od) := ⟨ha, hz.1, by unfold PySem.W.notCls; rw [hd] <;> rfl, by rw [hz.2, ed]; exact ho⟩
  exact HandSPX.exc_get I1.kIn J T.ga T.gg T.exC (PySem.W.findObj_own T.hdC hno rfl (by rw [hl, hu])) (handed_of ru) ⟨v, H1, I1.tok _, ru, q⟩
end
/-! ### defs that get it -/
/-- a promise that knows the exception that is handled: where, its class, its own dict -/
abbrev SpE := Addr → Value → Option Addr → Sp
structure FnE (P : Program) (w : World) (K : PySem.W.Frag) (mg : Str → Option Value) (base : Heap) (CX : CXT) (k : Nat) (f : Addr) (fd : FuncData) (ps : List Str) (sp : SpE) : Prop where
  len : ∀ a c d vs H Q E, sp a c d vs H Q E → vs.length = ps.length
  run : ∀ (A : Around) (outer : List Env) (s : Shared) (H : Hp) (args : Args) (us : List Value) (vs : List V) (Q : VK) (E : XK) (p : Addr × Obj) (c : Value) (d : Option Addr), RoomH k A → Hot1 A p → Zc c d p.2 → PinOk outer H s p → Env0 P w K mg base A outer s H → BindsTo s fd args (ps.zip us) → Vals vs us → sp p.1 c d vs H Q E →
    codeAny (model P w) A (.call (.ref f) args) (CR CX outer P w H s Q E) s
theorem fn_ofE {CX : CXT} {P : Program} {w : World} {K : PySem.W.Frag} {mg : Str → Option Value} {base : Heap} {k : Nat} {f : Addr} {fd : FuncData} {ps : List Str} {sp : SpE} (len : ∀ a c d vs H Q E, sp a c d vs H Q E → vs.length = ps.length)
    (h : ∀ (p : Addr × Obj) (c : Value) (d : Option Addr), Zc c d p.2 → (∃ vs, p.2.data = .fields vs) → ∀ (sp1 : Sp), sp1 = sp p.1 c d → ∀ (A : Around) (outer : List Env) (s : Shared) (H : Hp) (args : Args) (us : List Value) (vs : List V) (Q : VK) (E : XK), RoomH k A → Hot1 A p → PinOk outer H s p → Env0 P w K mg base A outer s H → BindsTo s fd args (ps.zip us) → Vals vs us → sp1 vs H Q E →
      codeAny (model P w) A (.call (.ref f) args) (CR CX outer P w H s Q E) s) : FnE P w K mg base CX k f fd ps sp :=
  ⟨len, fun A outer s H args us vs Q E p c d hr hot hz hpin e0 hb r q => h p c d hz (by obtain ⟨_, vs, e, _⟩ := hot; exact ⟨vs, e⟩) _ rfl A outer s H args us vs Q E hr hot hpin e0 hb r q⟩
end LX
end
section
set_option Elab.async false
set_option linter.all false
set_option maxRecDepth 100000
set_option maxHeartbeats 4000000
namespace LX
open PySem PySem.Spec PyProof.Rows L2 L2H HotX LHot
section
variable {P : Program} {w : World} {K : PySem.W.Frag} {mg : Str → Option Value} {base : Heap} {x qual : Str} {params : Arguments} {body : List Stmt} {scope : Scope} {dvs : List V} {kws : List (Str × V)} {f : Addr} {fd : FuncData}
/-- THE RULE for a def that gets the handled exception -/
theorem okE {CX : CXT} {N ps : List Str} {k : Nat} {sp : SpE} (F : FunD K x qual params body scope dvs kws f fd) (S : FnScope N ps scope) (len : ∀ a c d vs H Q E, sp a c d vs H Q E → vs.length = ps.length)
    (hbody : ∀ (cdv : Value) (A : Around) (outer : List Env) (s : Shared) (H : Hp) (vs : List V) (Q : VK) (E : XK) (p : Addr × Obj) (c : Value) (d : Option Addr), Hot1 A p → Zc c d p.2 → (∃ vs, p.2.data = .fields vs) → RoomH k (A.deeper (envOfC qual scope s.heap.objs.size f cdv)) → sp p.1 c d vs H Q E →
      ∃ t, PSs (cxH CX P w K mg base N qual scope f cdv A outer s H E p) body t ∧ t { nx := fun _ H' => Q .non H', rt := Q } (L2.start N vs) H) : FnE P w K mg base CX (k + 1) f fd ps sp := by
  obtain ⟨oc, od, dV, kV, doc, pm, an, cdv, ct, osl, rfl, lk, hcd, _, _⟩ := F.ex
  refine ⟨len, fun A outer s H args us vs Q E p c d hr hot hz hpin e0 hb r hsp => ?_⟩
  have hl := len _ _ _ _ _ _ _ hsp
  have KX : K.In s.heap := e0.mod.kin.keeps fun b o e => (e0.bs b o e).1
  have lim : s.heap.NoLimit := e0.mod.nolimit.keeps fun b o e => (e0.bs b o e).1
  have hkind : ∀ y ∈ ps.zip us, scope.names.lookup y.1 = some .local ∨ (scope.names.lookup y.1 = some .cell ∧ ((cellsFrom (s.heap.objs.size + 1) scope.names []).lookup y.1).isSome = true) := fun ⟨n, v⟩ hy => by
    rcases S.par n (List.of_mem_zip hy).1 with q | q
    · exact .inl q
    · exact .inr ⟨q, PySem.W.cellsFrom_some _ _ _ (.inl q)⟩
  refine codeAny_call_function hr.depth (KX _ _ lk) rfl S.co S.gen rfl (PySem.W.codeRec_of KX hcd) (hb _ _ _ _ ?_)
  refine wpAny_newFunctionEnv_cells S.kind hkind fun env he s1 y => ?_
  subst he
  refine ⟨lim.keeps y.toInCall.keep, codeAny_func ?_⟩
  obtain ⟨t, ht, hq⟩ := hbody cdv A outer s H vs Q E p c d hot hz (by obtain ⟨_, vs, e, _⟩ := hot; exact ⟨vs, e⟩) (hr.deeper _) hsp
  have I : Inv (cxH CX P w K mg base N qual scope f cdv A outer s H E p) [] (L2.start N vs) H s1 := inv_startH S hpin e0 hl r y
  refine wpAny_mono (ht.run [] s1 (L2.start N vs) H _ I hq) (fun fl s' hs => ?_) fun e s' hs => hs
  have fin : ∀ {σ' : St} {H' : Hp} {v : V} {u : Value}, Inv (cxH CX P w K mg base N qual scope f cdv A outer s H E p) [] σ' H' s' → RelV v u → Q v H' → CE outer P w H s Q u s' :=
    fun {σ' H' v u} J rv q => ⟨v, H', J.os, J.bare, J.base, J.hok, rv, q⟩
  cases fl with
  | ret u =>
    obtain ⟨v, σ', H', J, rv, q⟩ := hs
    exact fin J rv q
  | next =>
    obtain ⟨σ', H', J, q⟩ := hs
    exact fin (v := V.non) (u := Value.none) J rfl q
  | brk =>
    obtain ⟨_, _, _, q⟩ := hs
    exact False.elim q
  | cont =>
    obtain ⟨_, _, _, q⟩ := hs
    exact False.elim q
end
/-- the handled exception, as the context bears it -/
def HotE (X : Cx) (a : Addr) (c : Value) (d : Option Addr) : Prop := ∃ oe : Obj, (a, oe) ∈ X.pn ∧ Hot1 X.A (a, oe) ∧ Zc c d oe
theorem HotE.hotC {X : Cx} {a : Addr} {c : Value} {d : Option Addr} (h : HotE X a c d) : HotC X := by
  obtain ⟨oe, h1, h2, _⟩ := h
  exact ⟨_, h2, h1⟩
theorem HotE.pin {X : Cx} {a : Addr} {c : Value} {d : Option Addr} (h : HotE X a c d) : PinE X a c d := by
  obtain ⟨oe, h1, ⟨_, vs, e, _⟩, h3⟩ := h
  exact ⟨oe, h1, h3, vs, e⟩
theorem hotE_suite {X : Cx} {a : Addr} {oe : Obj} {pn : List (Addr × Obj)} {c : Value} {d : Option Addr} (z : L2N.Zn c d oe) (f : ∃ vs, oe.data = .fields vs) : HotE (X.suite a ((a, oe) :: pn)) a c d := by
  obtain ⟨vs, e⟩ := f
  exact ⟨oe, List.mem_cons_self, ⟨rfl, vs, e, z.2.2 vs e⟩, z.zc⟩
theorem hotE_def {CX : CXT} {P : Program} {w : World} {K : PySem.W.Frag} {mg : Str → Option Value} {base : Heap} {N : List Str} {qual : Str} {scope : Scope} {f : Addr} {cd : Value} {A : Around} {outer : List Env} {s : Shared} {H : Hp} {E : XK} {p : Addr × Obj} {c : Value} {d : Option Addr}
    (hot : Hot1 A p) (z : Zc c d p.2) : HotE (cxH CX P w K mg base N qual scope f cd A outer s H E p) p.1 c d := ⟨p.2, List.mem_cons_self, ⟨hot.1, hot.2⟩, z⟩
section
variable {X : Cx} {CX : CXT} {k : Nat} {f : Addr} {fd : FuncData} {ps : List Str} {sp : SpE} {x : Str} {q pos : Pos} {e : Expr} {es : List Expr} {t : TA} {a : Addr} {c : Value} {d : Option Addr}
def tCallE (sp : SpE) (a : Addr) (c : Value) (d : Option Addr) (t : TA) : TE := fun σ H Q => t σ H fun vs H1 => sp a c d vs H1 Q (fun _ _ _ => False)
/-- f(.., e, ..), e the handled exception; nothing is let out -/
theorem pe_callE (F : FnE X.prog X.w X.K X.mg X.base CX k f fd ps sp) (hr : RoomH k X.A) (hc : HotE X a c d) (hg : Gl X x) (hm : X.mg x = some (.ref f)) (hk : PySem.W.keepIn X.K (.ref f) = true) (hb : Binds X.K fd ps [])
    (hx : ∀ (s : Shared) (H : Hp) (e : Value) (s' : Shared), CX X.stack H s (fun _ _ _ => False) e s' → False)
    (ha : PA X (e :: es) t) (hdb : (x == ("__debug__" : Str)) = false := by decide) (he : starEach (e :: es) X.env = (false, eval e X.env) :: starEach es X.env := by rfl) (hpl : (backTo pos (starEach es X.env)).any (·.1) = false := by rfl) :
    PE X (.Call (.Name x q) (e :: es) [] pos) (tCallE sp a c d t) := by
  refine ⟨fun pins s σ H Q I h => ?_⟩
  refine wpAny_Call_Name_kw (ld_glob I hg hm ?_ hdb)
  refine PySem.W.callWith_K (h₀ := X.base) I.ok.mod.kin hk (thn (ha.run pos pins s σ H _ I h) fun us s1 ⟨vs, H1, I1, r, q⟩ => ⟨I1.kIn, ?_⟩) he hpl
  obtain ⟨oe, hp, hot, hz⟩ := hc
  have hl : us.length = ps.length := by rw [← r.length]; exact F.len _ _ _ _ _ _ _ q
  have b := hb s1 us I1.kIn (by rw [List.append_nil]; exact hl)
  rw [List.append_nil] at b
  have P1 := I1.pin (a, oe) (List.mem_append_left _ hp)
  have hpin : PinOk X.stack H1 s1 (a, oe) := ⟨P1.1, P1.2.1, fun hm => (List.mem_cons.mp (I1.stkSub a hm)).elim P1.2.2.1 P1.2.2.2.1, P1.2.2.2.2⟩
  refine wpAny_call (codeAny_mono (F.run X.A X.stack s1 H1 ⟨us, []⟩ us vs Q _ (a, oe) c d hr hot hz hpin I1.env0 b r q) fun r s' hq => ?_)
  cases r with
  | error e => exact (hx _ _ _ _ hq).elim
  | ok fl =>
    cases fl with
    | ret u => exact I1.after hq
    | next => exact False.elim hq
    | brk => exact False.elim hq
    | cont => exact False.elim hq
end
/-! ### try: body / except x as n: suite / further clauses that are never asked -/
section
variable {X : Cx} {x n : Str} {c : Value} {i : Nat} {body suite : List Stmt} {b₀ : Stmt} {np pos pos' : Pos} {hds : List ExceptHandler} {tb : WX → TS} {ts : Addr → Value → Option Addr → TS}
end
end LX
end
section
set_option Elab.async false
set_option linter.all false
set_option maxRecDepth 100000
set_option maxHeartbeats 4000000
/-! try: body / except x as n: suite / clauses that are never asked: each exception of the body is the first one's -/
namespace LX
open PySem PySem.Spec PyProof.Rows L2 L2H HotX LHot
def wFst (K : PySem.W.Frag) (c : Value) (i : Nat) (ts : Addr → Value → Option Addr → TS) (D : Ends) : WX := fun cls d σ H => PySem.W.exmOne K cls c = some true ∧
  ∀ a, H a = none → ts a cls d { nx := fun σ' H' => D.nx (σ'.set i none) H', rt := D.rt, bk := fun σ' H' => D.bk (σ'.set i none) H', ct := fun σ' H' => D.ct (σ'.set i none) H' } (σ.set i (some (.ref a))) H
section
variable {X : Cx} {x n : Str} {c : Value} {i : Nat} {body suite : List Stmt} {b₀ : Stmt} {np pos pos' : Pos} {hds : List ExceptHandler} {tb : WX → TS} {ts : Addr → Value → Option Addr → TS}
theorem ps_try_first (hs : X.stack = X.env :: X.outer) (hf : X.env.frame = some X.env.locals) (hN : X.N.Nodup) (hi : X.N[i]? = some n) (hln : X.env.kindOf n = some .local) (hc : Names X x c)
    (hb : ∀ (W : WX) (pn : List (Addr × Obj)) (xe : Value → Shared → Prop), L2N.Takes (X.tr pn xe) W → PassesOwn (model X.prog X.w) X.A X.env xe → PSs (X.tr pn xe) body (tb W))
    (hsu : ∀ (a : Addr) (oe : Obj) (cls : Value) (d : Option Addr) (pn : List (Addr × Obj)), L2N.Zn cls d oe → (∃ vs, oe.data = .fields vs) → PSs (X.suite a ((a, oe) :: pn)) (b₀ :: suite) (ts a cls d)) :
    PS X (.Try body (.ExceptHandler (some (.Name x np)) (some n) (b₀ :: suite) pos' :: hds) [] [] pos) (fun D σ H => tb (wFst X.K c i ts D) D σ H) := by
  refine ⟨fun pins s σ H D I h => ?_⟩
  have ok := I.ok
  have hfr : X.A.frames = some (X.env :: X.outer) := by rw [ok.frames, hs]
  have hloc : Loc X.env.scope n := .inl hln
  refine wpAny_Try_except ?_
  refine wpAny_mono ((hb (wFst X.K c i ts D) (X.pn ++ pins) (fun e s₁ => wpAny (model X.prog X.w) X.A (noteFrame e X.env) (fun _ s₂ => wpAny (model X.prog X.w) X.A (setFlight e none) (fun _ s₃ =>
    wpAny (model X.prog X.w) X.A (handleBy e X.env (.ExceptHandler (some (.Name x np)) (some n) (b₀ :: suite) pos' :: hds)) (SP X pins D) X.xe s₃) X.xe s₂) X.xe s₁) (fun u s' xx => ?_) PassesOwn.looking).run [] s σ H D (I.toTry _) h) (fun f s1 hsp => ?_) (fun e s1 he => he)
  · -- the catch
    obtain ⟨a, B, sI, pins', σ', H', cls, d, rfl, J', nb, up, sky, na, os, ag, hb1, hyes⟩ := xx
    have J : Inv X pins σ' H' sI := J'.ofTry ok
    have sky' : Sky B (X.env :: X.outer) a (L2N.Zn cls d) X.env.locals s'.heap := by rw [← hs]; exact sky
    show wpAny (model X.prog X.w) X.A (noteFrame (.ref a) X.env) _ _ _
    refine L2N.Sky.land L2N.Zn.steady hfr hf sky' fun h3 fl3 up3 => ?_
    have J3 : Inv X pins σ' H' { s' with heap := h3 } := J.landed nb fl3.1 (up.trans up3) os ag
    obtain ⟨oe3, vs3, he3, hz3, hd3⟩ := fl3.there
    have notFr : ∀ {h : Heap} {o : Obj} {vs : Array Value}, h.FunFrames B (X.env :: X.outer) → h.get? a = some o → o.data = .fields vs → a ∉ frs (X.env :: X.outer) := fun {h o vs} ff e dd hm => by
      obtain ⟨_, o', e', hnf⟩ := ff.mem hm
      rw [e] at e'; cases e'
      exact hnf _ dd
    have nfr := notFr fl3.2.2.1 he3 hd3
    have nL : a ≠ X.env.locals := fun z => nfr (List.mem_filterMap.mpr ⟨X.env, List.mem_cons_self, by rw [hf, z]⟩)
    have nF : a ∉ X.fs := fun hm => by
      obtain ⟨e, he, q⟩ := List.mem_filterMap.mp hm
      exact nfr (List.mem_filterMap.mpr ⟨e, List.mem_cons_of_mem _ he, q⟩)
    have S3 := J3.suite he3 hd3 na nL nF
    refine wpAny_handleBy_cons (codeAny_handlers_test ?_) (by intro q; cases q)
    have LT : PySem.W.Looks (model X.prog X.w) h3 (typeOf (.ref a)) cls := fun A Q E s k q => wpAny_typeOf_ref (k _ _ he3) (by rw [hz3.1]; exact q)
    have LM := PySem.W.exm_one (M := model X.prog X.w) (J3.kIn) LT hb1
    have test : ∀ {Q : Value → Shared → Prop} {E : Value → Shared → Prop}, Q c { s' with heap := h3 } → wpAny (model X.prog X.w) (X.A.mark (some (.ref a))) (eval (.Name x np) X.env) Q E { s' with heap := h3 } := fun {Q E} q => by
      obtain ⟨hg, hdbg, hm | ⟨hm, hv, hnn⟩⟩ := hc
      · exact ld_glob (X := X.suite a ((a, oe3) :: (X.pn ++ pins))) S3 hg hm q hdbg
      · exact ld_blt (X := X.suite a ((a, oe3) :: (X.pn ++ pins))) S3 hg hm hv q hnn hdbg
    refine test (LM.here ?_)
    refine codeAny_handlers_suite_as ?_
    refine HandSPX.lands_againZ fl3 fun h4 fl4 up4 => ?_
    have J4 : Inv X pins σ' H' { s' with heap := h4 } := J.landed nb fl4.1 ((up.trans up3).trans up4) os ag
    obtain ⟨oe4, vs4, he4, hz4, hd4⟩ := fl4.there
    have S4 := J4.suite he4 hd4 na nL nF
    refine store_ok (X := X.suite a ((a, oe4) :: (X.pn ++ pins))) (v := .ref a) S4 hN hi hloc rfl (fun s5 S5 => ?_) (.inr hln)
    refine wpAny_mono ((hsu a oe4 cls d (X.pn ++ pins) hz4 ⟨_, hd4⟩).run [] s5 _ H' _ S5 (hyes a na)) (fun f s6 hsp => ?_) (fun _ _ z => False.elim z)
    have end_ : ∀ {σ6 : St} {H6 : Hp} {Q : Shared → Prop}, Inv (X.suite a ((a, oe4) :: (X.pn ++ pins))) [] σ6 H6 s6 → (∀ s7, Inv X pins (σ6.set i none) H6 s7 → Q s7) →
        wpAny (model X.prog X.w) X.A (do bindName X.env n .none; unbindBehindTheSuite X.env n pos') (fun _ s7 => Q s7) X.xe s6 := fun {σ6 H6 Q} S6 hq => gone_ok (S6.unsuite ok) hN hi hln hq
    cases f with
    | next =>
      obtain ⟨σ6, H6, S6, q6⟩ := hsp
      exact end_ S6 fun s7 J7 => ⟨_, _, J7, q6⟩
    | brk =>
      obtain ⟨σ6, H6, S6, q6⟩ := hsp
      exact end_ S6 fun s7 J7 => ⟨_, _, J7, q6⟩
    | cont =>
      obtain ⟨σ6, H6, S6, q6⟩ := hsp
      exact end_ S6 fun s7 J7 => ⟨_, _, J7, q6⟩
    | ret u =>
      obtain ⟨v6, σ6, H6, S6, r6, q6⟩ := hsp
      exact end_ S6 fun s7 J7 => ⟨_, _, _, J7, r6, q6⟩
  · cases f with
    | next =>
      obtain ⟨σ', H', J', q⟩ := hsp
      exact wpAny_execs_nil ⟨σ', H', J'.ofTry ok, q⟩
    | brk =>
      obtain ⟨σ', H', J', q⟩ := hsp
      exact ⟨σ', H', J'.ofTry ok, q⟩
    | cont =>
      obtain ⟨σ', H', J', q⟩ := hsp
      exact ⟨σ', H', J'.ofTry ok, q⟩
    | ret u =>
      obtain ⟨v, σ', H', J', r, q⟩ := hsp
      exact ⟨v, σ', H', J'.ofTry ok, r, q⟩
end
end LX
end
section
set_option Elab.async false
set_option linter.all false
set_option maxRecDepth 100000
set_option maxHeartbeats 4000000
/-! exception classes of the package: what the written part says of them, one Bool; raised with context None -/
namespace LE
open PySem PySem.Spec PyProof.Rows L2 L2H
def clsB (K : PySem.W.Frag) (C : Addr) : Bool := match K.lookup C with
  | some ⟨.type "type", _, .cls cd, sl⟩ => (match cd.mro, sl.toList with
    | .ref C' :: bm, [_, _, _, _, some (.builtin n), _] => C' == C && (n == "ValueError.__new__" && (cd.hasDict && (!cd.hasDel && PySem.HandSPX.refsVE bm)))
    | _, _ => false)
  | _ => false
theorem clsB_ok {K : PySem.W.Frag} {C : Addr} (q : clsB K C = true) : ∃ nm q N bs bm sn sub ab col dd k0 k1 k2 k3 k5, K.lookup C = some (excClassObj nm q C N bs bm true sn sub ab col dd k0 k1 k2 k3 k5 "ValueError.__new__") ∧ PySem.HandSPX.refsVE bm = true := by
  unfold clsB at q
  split at q
  · rename_i dd cd sl ho
    split at q
    · rename_i C' bm k0 k1 k2 k3 n k5 hm hs
      simp only [Bool.and_eq_true, beq_iff_eq, Bool.not_eq_true'] at q
      obtain ⟨e1, e2, e3, e4, e5⟩ := q
      subst e1 e2
      obtain ⟨nm, bs, mro, ns, qn, hdct, sn, sub, ab, col, hdel⟩ := cd
      dsimp only at hm e3 e4
      subst hm e3 e4
      have hs' : sl = #[k0, k1, k2, k3, some (.builtin "ValueError.__new__"), k5] := by
        have := congrArg List.toArray hs
        simpa using this
      subst hs'
      exact ⟨nm, qn, ns, bs, bm, sn, sub, ab, col, dd, k0, k1, k2, k3, k5, ho, e5⟩
    · cases q
  · cases q
def eqV (a b : Option Value) : Bool := decide (a = b)
theorem eqV_ok {a b : Option Value} (h : eqV a b = true) : a = b := of_decide_eq_true h
/-- what all rules ask of an own exception class at C -/
structure Own (K : PySem.W.Frag) (C : Addr) : Prop where
  oex : OexC K C
  exc : ExcC K C
  xf : XfC K C
  ini : PySem.W.findIn K (.ref C) "__init__" = some (some (.ref (He.ma K C "__init__")))
  tyI : PySem.W.typeIn K (.ref (He.ma K C "__init__")) = some (.type "function")
  clsb : ClsV (.ref C) (.ref C)
def ownB (K : PySem.W.Frag) (C : Addr) : Bool :=
  clsB K C && (He.eqO (PySem.W.findIn K (.ref C) "__setattr__") (some (some (.builtin "object.__setattr__"))) && (decide (PySem.W.subIn K (.ref C) (.type "BaseException") = some true) && (eqV (PySem.W.typeIn K (.ref C)) (some (.type "type")) && (PySem.W.keepIn K (.ref C) &&
  (He.eqO (PySem.W.findIn K (.ref C) "__getattribute__") (some (some (.builtin "BaseException.__getattribute__"))) && (He.eqO (PySem.W.findIn K (.ref C) "__getattr__") (some none) && (PySem.W.hasDictIn K C &&
  (He.eqO (PySem.W.findIn K (.ref C) "__class__") (some (some (.builtin "object.__class__"))) && (He.eqO (PySem.W.specialIn K (.builtin "object.__class__") "__get__") (some (some (.builtin "getset_descriptor.__get__"))) &&
  (decide (PySem.W.takesIn K (.builtin "object.__class__") = some true) && (decide (PySem.W.mroIn K C (.type "object") = some true) &&
  (He.eqO (PySem.W.findIn K (.ref C) "__init__") (some (some (.ref (He.ma K C "__init__")))) && eqV (PySem.W.typeIn K (.ref (He.ma K C "__init__"))) (some (.type "function"))))))))))))))
theorem ownB_ok {K : PySem.W.Frag} {C : Addr} (h : ownB K C = true) : Own K C := by
  unfold ownB at h
  simp only [Bool.and_eq_true] at h
  obtain ⟨h1, h2, h3, h4, h5, h6, h7, h8, h9, h10, h11, h12, h13, h14⟩ := h
  have e3 := of_decide_eq_true h3
  exact ⟨⟨clsB_ok h1, He.eqO_ok h2, e3, eqV_ok h4, h5⟩, ⟨He.eqO_ok h6, He.eqO_ok h7, e3, h8, He.eqO_ok h9, He.eqO_ok h10, of_decide_eq_true h11, of_decide_eq_true h12⟩, ⟨He.eqO_ok h6, He.eqO_ok h7, e3, h8⟩, He.eqO_ok h13, eqV_ok h14, .own C⟩
/-- isinstance of an instance of D against C, by the written part -/
def isB (K : PySem.W.Frag) (D : Addr) (c : Value) (b : Bool) : Bool := decide (PySem.W.kitOne K (.ref D) c = some b)
def exmB (K : PySem.W.Frag) (D C : Addr) (b : Bool) : Bool := decide (PySem.W.exmOne K (.ref D) (.ref C) = some b)

/-! ### C(e, ..), raised where nothing is handled -/
section
variable {X : Cx} {e : Expr} {es : List Expr} {ta : TA} {p pos : Pos}
theorem pmk_oexN {CX : CXT} {x : Str} {C fI : Addr} {k : Nat} {fd : FuncData} {ps : List Str} {sp : Sp} (T : OexC X.K C) (iC : PySem.W.findIn X.K (.ref C) "__init__" = some (some (.ref fI))) (tI : PySem.W.typeIn X.K (.ref fI) = some (.type "function"))
    (F1 : FnOk X.prog X.w X.K X.mg X.base CX k fI fd ps sp) (hr : Room (k + 1) X.A) (hb : Binds X.K fd ps []) (hx : ∀ (s : Shared) (H : Hp) (e : Value) (s' : Shared), CX X.stack H s (fun _ _ _ => False) e s' → False) (hg : Gl X x) (hm : X.mg x = some (.ref C)) (ha : PA X (e :: es) ta)
    (hdb : (x == ("__debug__" : Str)) = false := by decide) (he : starEach (e :: es) X.env = (false, eval e X.env) :: starEach es X.env := by rfl) (hpl : (backTo pos (starEach es X.env)).any (·.1) = false := by rfl) :
    L2N.PMk X (.Call (.Name x p) (e :: es) [] pos) (tMkO C sp [] ta) := by
  intro pins s σ H Q I h
  obtain ⟨nm, q, N, bs, bm, sn, sub, ab, col, dd, k0, k1, k2, k3, k5, hC, hbm⟩ := T.cls
  refine wpAny_Call_Name_kw (ld_glob I hg hm ?_ hdb)
  refine PySem.W.callWith_K (h₀ := X.base) I.ok.mod.kin T.kC (thn (ha.run pos pins s σ H _ I h) fun us s1 ⟨vs, H1, I1, r1, hz, q1⟩ => ⟨I1.kIn, ?_⟩) he hpl
  show wpAny _ _ (call (.ref C) us) _ _ _
  obtain ⟨hp, g, dr, tk, os⟩ := s1
  have hsz : hp.objs.size ≤ hp.objs.size + 1 := Nat.le_succ _
  have hn : H1 (hp.objs.size + 1) = none := I1.hok.fresh hsz
  have hq := q1 (hp.objs.size + 1) hn
  rw [List.append_nil] at hq
  have kk : ∀ b o, hp.get? b = some o → ((hp.push (PySem.W.kdv_tup us)).push (PySem.HandSPX.excO C hp.objs.size)).get? b = some o := fun b o e => Heap.get?_push_of_some _ (Heap.get?_push_of_some _ e)
  have hget : ((hp.push (PySem.W.kdv_tup us)).push (PySem.HandSPX.excO C hp.objs.size)).get? (hp.objs.size + 1) = some (PySem.HandSPX.excO C hp.objs.size) := by heap_get
  have I2 : Inv X pins σ (upd H1 (hp.objs.size + 1) (exo (hp.objs.size + 1) C none)) ⟨(hp.push (PySem.W.kdv_tup us)).push (PySem.HandSPX.excO C hp.objs.size), g, dr, tk, os⟩ :=
    I1.laid (t' := tk) (a := hp.objs.size + 1) (o := exo (hp.objs.size + 1) C none) (h' := (hp.push (PySem.W.kdv_tup us)).push (PySem.HandSPX.excO C hp.objs.size)) kk hsz (exo_ok hget)
  have r2 : Vals (V.ref (hp.objs.size + 1) :: vs) (Value.ref (hp.objs.size + 1) :: us) := .cons rfl r1
  have hl : (Value.ref (hp.objs.size + 1) :: us ++ []).length = ps.length := by
    have e := r2.length
    rw [F1.len _ _ _ _ hq] at e
    rw [List.append_nil]
    exact e.symm
  have hus : us.length ≤ sizeLine := by
    rw [← Paired.length r1, sizeLine_eq]
    omega
  have b2 := hb _ (Value.ref (hp.objs.size + 1) :: us) I2.kIn hl
  rw [List.append_nil] at b2
  refine wpAny_call (PySem.HandSPX.call_own F.excBase_ValueError (fun Y => PySem.HandSPX.refsVE_contains Y bm hbm) (I1.kIn _ _ hC) (PySem.W.looks_findIn I1.kIn iC) (fun self => PySem.W.bind_fn I1.kIn self tI) hus
    (codeAny_mono (F1.run _ X.stack _ _ ⟨Value.ref (hp.objs.size + 1) :: us, []⟩ (Value.ref (hp.objs.size + 1) :: us) _ _ (fun _ _ _ => False) (hr.make C us []) (I2.env0.make C us []) b2 r2 hq) fun r s' hq' => ?_))
  cases r with
  | error er => exact (hx _ _ _ _ hq').elim
  | ok fl =>
    cases fl with
    | ret u =>
      obtain ⟨v, H2, os2, bare2, un2, hok2, rv, ev, d, fs, ea, ed, hd1, q2⟩ := hq'
      subst ev
      obtain ⟨h2, g2, d2, t2, os'⟩ := s'
      obtain ⟨t0, G, J, kG, ge, hoe, na⟩ := mk_end0 (d2 := d2) (t2 := t2) I1 hsz kk un2 hok2 os2 bare2 ea ed hd1
      refine ⟨rv, ?_⟩
      show L2N.MkP X pins σ Q (.ref (hp.objs.size + 1)) ⟨h2, g2, d2, t2, os'⟩
      exact ⟨_, _, _, ⟨G, g2, d2, t2, os'⟩, _, .ref C, some d, rfl, J, kG, ge, hoe, ⟨rfl, rfl, fun vs z => by cases z; rfl⟩, rfl, rfl, na, rfl, bare2, raises_own T.exC T.tyC, q2⟩
    | next => exact False.elim hq'
    | brk => exact False.elim hq'
    | cont => exact False.elim hq'
end
end LE
end
section
set_option Elab.async false
set_option linter.all false
set_option maxRecDepth 100000
set_option maxHeartbeats 4000000
/-! own exception classes over three built-ins, by the written part: Bools -/
namespace LW
open PySem PySem.Spec PyProof.Rows L2 L2H
inductive Bs where | v | l | r
def bmOf : Bs → List Value
  | .v => [.type "ValueError", .type "Exception", .type "BaseException", .type "object"]
  | .l => [.type "LookupError", .type "Exception", .type "BaseException", .type "object"]
  | .r => [.type "RuntimeError", .type "Exception", .type "BaseException", .type "object"]
def newOf : Bs → String
  | .v => "ValueError.__new__"
  | .l => "LookupError.__new__"
  | .r => "RuntimeError.__new__"
/-- names that the classes themselves don't bind -/
def bare : List Str := ["__setattr__", "__getattribute__", "__getattr__", "__class__", "at", "name", "line", "kind", "what", "wall", "count"]
def nsB (K : PySem.W.Frag) (ns : Addr) : Bool := match K.lookup ns with
  | some ⟨_, _, .dict es _, _⟩ => es.toList.all fun e => !e.refKey && bare.all fun n => !e.key.isStr n
  | _ => false
def shapeB (K : PySem.W.Frag) (C : Addr) (over : List Value) (b : Bs) : Bool := match K.lookup C with
  | some ⟨.type "type", _, .cls cd, sl⟩ => (match sl.toList with
    | [_, _, _, _, some (.builtin n), _] => n == newOf b
    | _ => false) && (cd.hasDict && (!cd.hasDel && (decide (cd.mro = .ref C :: (over ++ bmOf b)) && nsB K cd.ns)))
  | _ => false
def baseB (K : PySem.W.Frag) (R : Addr) : Bool := match K.lookup R with
  | some ⟨.type "type", _, .cls cd, _⟩ => nsB K cd.ns
  | _ => false
def wordsL : List Str := ["BadNumber", "BadSum", "BadQuotient", "BadLandscape", "BadWell", "BadWall", "BadShape", "BadRoll", "BadOperator", "BadSymbol", "BadStep", "BadPaper", "BadName", "BadScript", "Barred", "Unlike", "HasResidue", "NotKept", "TooMany", "NoSuch", "Ended", "Refused"]
def nodB (K : PySem.W.Frag) : Bool := decide ((wordsL.map fun c => He.ga K c).Nodup)
/-- the class c: its shape, its own __init__ -/
def ownB (K : PySem.W.Frag) (c : Str) (refd : Bool) (b : Bs) : Bool :=
  shapeB K (He.ga K c) (if refd = true then [.ref (He.ga K "Refused")] else []) b && (He.eqO (PySem.W.findIn K (.ref (He.ga K c)) "__init__") (some (some (.ref (He.ma K (He.ga K c) "__init__")))) && LE.eqV (PySem.W.typeIn K (.ref (He.ma K (He.ga K c) "__init__"))) (some (.type "function")))
end LW
end
section
set_option Elab.async false
set_option linter.all false
set_option maxRecDepth 100000
set_option maxHeartbeats 4000000
/-! the head's part of the heap, chosen by what is named: the globals, their codes, the classes' own dicts, what those bind, their codes -/
namespace LW
open PySem PySem.Spec PyProof.Rows L2 He
def refY (o : Obj) : List Addr := match o.data with
  | .func fd => refV fd.code ++ (refV fd.defaults ++ (refV fd.kwdefaults ++ fd.closure.map (·.2)))
  | .cls cd => [cd.ns]
  | .dict es _ => es.toList.flatMap fun e => refV e.val
  | _ => []
def stepY (g : Addr → Option Obj) (as : List Addr) : List Addr := as.flatMap fun a => match g a with
  | some o => refY o
  | none => []
def asY (g : Addr → Option Obj) : List Addr :=
  mainGlobals :: (stepY g [mainGlobals] ++ (stepY g (stepY g [mainGlobals]) ++ (stepY g (stepY g (stepY g [mainGlobals])) ++ stepY g (stepY g (stepY g (stepY g [mainGlobals]))))))
def obsY (fa : List Fa) (fn : List DefD) (ts : List Tab) (tf : List Defn) (ex : PySem.W.Frag → Bool) (g : Addr → Option Obj) : AlX :=
  (obsT fa fn ts (frT g (asY g)), ex (frT g (asY g)) && tabsB g tf (frT g (asY g)))
theorem both {a b : Bool} (h : (a && b) = true) : a = true ∧ b = true := Bool.and_eq_true_iff.mp h
theorem saysY {fa : List Fa} {fn : List DefD} {ts : List Tab} {tf : List Defn} {ex : PySem.W.Frag → Bool} {w : World} {h : Heap} (e : obsY fa fn ts tf ex h.get? = valX fn ts w) : SaysX fa fn ts tf ex w h (frT h.get? (asY h.get?)) := by
  have e1 : obsT fa fn ts (frT h.get? (asY h.get?)) = valT fn ts w := congrArg (fun z : AlX => z.1) e
  have e2 : (ex (frT h.get? (asY h.get?)) && tabsB h.get? tf (frT h.get? (asY h.get?))) = true := congrArg (fun z : AlX => z.2) e
  obtain ⟨h1, h2⟩ := both e2
  have key : ∀ p ∈ tf, PySem.W.codeHdIn (frT h.get? (asY h.get?)) (cT (frT h.get? (asY h.get?)) p).1 (cT (frT h.get? (asY h.get?)) p).2 = true ∧ ∃ o, h.get? (cT (frT h.get? (asY h.get?)) p).2 = some o ∧ emptyTab o = true := by
    intro p hp
    have t := both (List.all_eq_true.mp h2 p hp)
    refine ⟨t.1, ?_⟩
    have t2 := t.2
    split at t2
    · rename_i o q
      exact ⟨o, q, t2⟩
    · cases t2
  refine ⟨e1, h1, fun p hp => (key p hp).1, fun p hp => ?_, fun p hp => ?_⟩
  · obtain ⟨_, o, q, z⟩ := key p hp
    exact frT_none q z
  · obtain ⟨_, o, q, z⟩ := key p hp
    rw [q, emptyTab_eq z]
def hookY (fa : List Fa) (fn : List DefD) (ts : List Tab) (tf : List Defn) (ex : PySem.W.Frag → Bool) : PySem.W.Hook where
  α := AlX
  obs := fun s => obsY fa fn ts tf ex s.heap.get?
  val := fun w => valX fn ts w
  says := fun w h => ∃ K : PySem.W.Frag, K.In h ∧ SaysX fa fn ts tf ex w h K
  of := fun _ _ e => ⟨_, frT_in, saysY e⟩
  keeps := fun _ _ _ ⟨K, hK, c⟩ k => ⟨K, PySem.W.Frag.In.keeps hK k, ⟨c.t, c.more, c.hd, c.out, fun p hp => k _ _ (c.empty p hp)⟩⟩
theorem obsY_eq {fa : List Fa} {fn : List DefD} {ts : List Tab} {tf : List Defn} {ex : PySem.W.Frag → Bool} {g : Addr → Option Obj} {s : Shared} (h : ∀ a, g a = s.heap.get? a) : obsY fa fn ts tf ex g = (hookY fa fn ts tf ex).obs s := by
  have e : g = s.heap.get? := funext h
  rw [e] <;> rfl
end LW
end
section
set_option Elab.async false
set_option linter.all false
set_option maxRecDepth 100000
set_option maxHeartbeats 0
/-! the head: generated by gen/head.py -/
namespace K00
open PySem PySem.Spec PyProof.Rows L2
abbrev prg : Program := PySem.Challenge.pw_logless_k00_numbers_there_and_back
def top (i : Nat) : Stmt := prg.main.body.getD i (.Pass ⟨0, 0, 0, 0⟩)
abbrev s_ask_text : Stmt := top 27
abbrev s_ask_digits : Stmt := top 28
abbrev s_ten_to : Stmt := top 32
abbrev s_digit_count : Stmt := top 33
abbrev s_is_digits : Stmt := top 34
abbrev s_whole_of : Stmt := top 35
abbrev s_is_whole : Stmt := top 37
abbrev s_pair_of : Stmt := top 38
abbrev s_text_of : Stmt := top 39
abbrev s_text_parts : Stmt := top 40
abbrev s_number_parts : Stmt := top 41
abbrev s_most_of_parts : Stmt := top 42
abbrev s_read_number : Stmt := top 43
abbrev s_number_text : Stmt := top 44
abbrev s__law_jar : Stmt := top 46
abbrev s__law_draw : Stmt := top 47
abbrev s__law_pick : Stmt := top 48
abbrev s__law_reach : Stmt := top 49
abbrev s__law_like : Stmt := top 50
abbrev s__law_classes : Stmt := top 51
abbrev s__law_fields : Stmt := top 52
abbrev s__law_parts_of : Stmt := top 53
abbrev s__law_tried : Stmt := top 54
abbrev s__law_refused : Stmt := top 55
abbrev s__law_gcd : Stmt := top 56
abbrev s__law_low : Stmt := top 57
abbrev s__law_word : Stmt := top 62
abbrev s__law_digits : Stmt := top 66
abbrev s__law_reads : Stmt := top 67
abbrev s__law_due : Stmt := top 68
abbrev s__law_integer : Stmt := top 69
abbrev s__law_asked : Stmt := top 70
abbrev s__law_forms : Stmt := top 71
abbrev s__law_bent : Stmt := top 72
abbrev s__law_strange : Stmt := top 73
abbrev s__law_thing : Stmt := top 74
abbrev s__law_singles : Stmt := top 75
abbrev s__law_others : Stmt := top 76
abbrev s_law : Stmt := top 77
abbrev s_BadNumber__init : Stmt := inClass (top 3) 0
abbrev s_BadSum__init : Stmt := inClass (top 4) 0
abbrev s_BadQuotient__init : Stmt := inClass (top 5) 0
abbrev s_BadLandscape__init : Stmt := inClass (top 6) 0
abbrev s_BadWell__init : Stmt := inClass (top 7) 0
abbrev s_BadWall__init : Stmt := inClass (top 8) 0
abbrev s_BadShape__init : Stmt := inClass (top 9) 0
abbrev s_BadRoll__init : Stmt := inClass (top 10) 0
abbrev s_BadOperator__init : Stmt := inClass (top 11) 0
abbrev s_BadSymbol__init : Stmt := inClass (top 12) 0
abbrev s_BadStep__init : Stmt := inClass (top 13) 0
abbrev s_BadPaper__init : Stmt := inClass (top 14) 0
abbrev s_BadName__init : Stmt := inClass (top 15) 0
abbrev s_BadScript__init : Stmt := inClass (top 16) 0
abbrev s_Barred__init : Stmt := inClass (top 17) 0
abbrev s_Unlike__init : Stmt := inClass (top 18) 0
abbrev s_HasResidue__init : Stmt := inClass (top 19) 0
abbrev s_NotKept__init : Stmt := inClass (top 20) 0
abbrev s_TooMany__init : Stmt := inClass (top 21) 0
abbrev s_NoSuch__init : Stmt := inClass (top 22) 0
abbrev s_Ended__init : Stmt := inClass (top 23) 0
def d_ask_text : He.DefD := ⟨("ask_text", none), "ask_text", "ask_text", defArgs s_ask_text, defBody s_ask_text, defScope s_ask_text, [], []⟩
def d_ask_digits : He.DefD := ⟨("ask_digits", none), "ask_digits", "ask_digits", defArgs s_ask_digits, defBody s_ask_digits, defScope s_ask_digits, [], []⟩
def d_ten_to : He.DefD := ⟨("ten_to", none), "ten_to", "ten_to", defArgs s_ten_to, defBody s_ten_to, defScope s_ten_to, [], []⟩
def d_digit_count : He.DefD := ⟨("digit_count", none), "digit_count", "digit_count", defArgs s_digit_count, defBody s_digit_count, defScope s_digit_count, [], []⟩
def d_is_digits : He.DefD := ⟨("is_digits", none), "is_digits", "is_digits", defArgs s_is_digits, defBody s_is_digits, defScope s_is_digits, [], []⟩
def d_whole_of : He.DefD := ⟨("whole_of", none), "whole_of", "whole_of", defArgs s_whole_of, defBody s_whole_of, defScope s_whole_of, [], []⟩
def d_is_whole : He.DefD := ⟨("is_whole", none), "is_whole", "is_whole", defArgs s_is_whole, defBody s_is_whole, defScope s_is_whole, [], []⟩
def d_pair_of : He.DefD := ⟨("pair_of", none), "pair_of", "pair_of", defArgs s_pair_of, defBody s_pair_of, defScope s_pair_of, [], []⟩
def d_text_of : He.DefD := ⟨("text_of", none), "text_of", "text_of", defArgs s_text_of, defBody s_text_of, defScope s_text_of, [], []⟩
def d_text_parts : He.DefD := ⟨("text_parts", none), "text_parts", "text_parts", defArgs s_text_parts, defBody s_text_parts, defScope s_text_parts, [], []⟩
def d_number_parts : He.DefD := ⟨("number_parts", none), "number_parts", "number_parts", defArgs s_number_parts, defBody s_number_parts, defScope s_number_parts, [], []⟩
def d_most_of_parts : He.DefD := ⟨("most_of_parts", none), "most_of_parts", "most_of_parts", defArgs s_most_of_parts, defBody s_most_of_parts, defScope s_most_of_parts, [], []⟩
def d_read_number : He.DefD := ⟨("read_number", none), "read_number", "read_number", defArgs s_read_number, defBody s_read_number, defScope s_read_number, [], []⟩
def d_number_text : He.DefD := ⟨("number_text", none), "number_text", "number_text", defArgs s_number_text, defBody s_number_text, defScope s_number_text, [], []⟩
def d__law_jar : He.DefD := ⟨("_law_jar", none), "_law_jar", "_law_jar", defArgs s__law_jar, defBody s__law_jar, defScope s__law_jar, [], []⟩
def d__law_draw : He.DefD := ⟨("_law_draw", none), "_law_draw", "_law_draw", defArgs s__law_draw, defBody s__law_draw, defScope s__law_draw, [], []⟩
def d__law_pick : He.DefD := ⟨("_law_pick", none), "_law_pick", "_law_pick", defArgs s__law_pick, defBody s__law_pick, defScope s__law_pick, [], []⟩
def d__law_reach : He.DefD := ⟨("_law_reach", none), "_law_reach", "_law_reach", defArgs s__law_reach, defBody s__law_reach, defScope s__law_reach, [], []⟩
def d__law_like : He.DefD := ⟨("_law_like", none), "_law_like", "_law_like", defArgs s__law_like, defBody s__law_like, defScope s__law_like, [], []⟩
def d__law_classes : He.DefD := ⟨("_law_classes", none), "_law_classes", "_law_classes", defArgs s__law_classes, defBody s__law_classes, defScope s__law_classes, [], []⟩
def d__law_fields : He.DefD := ⟨("_law_fields", none), "_law_fields", "_law_fields", defArgs s__law_fields, defBody s__law_fields, defScope s__law_fields, [], []⟩
def d__law_parts_of : He.DefD := ⟨("_law_parts_of", none), "_law_parts_of", "_law_parts_of", defArgs s__law_parts_of, defBody s__law_parts_of, defScope s__law_parts_of, [], []⟩
def d__law_tried : He.DefD := ⟨("_law_tried", none), "_law_tried", "_law_tried", defArgs s__law_tried, defBody s__law_tried, defScope s__law_tried, [], []⟩
def d__law_refused : He.DefD := ⟨("_law_refused", none), "_law_refused", "_law_refused", defArgs s__law_refused, defBody s__law_refused, defScope s__law_refused, [], []⟩
def d__law_gcd : He.DefD := ⟨("_law_gcd", none), "_law_gcd", "_law_gcd", defArgs s__law_gcd, defBody s__law_gcd, defScope s__law_gcd, [], []⟩
def d__law_low : He.DefD := ⟨("_law_low", none), "_law_low", "_law_low", defArgs s__law_low, defBody s__law_low, defScope s__law_low, [], []⟩
def d__law_word : He.DefD := ⟨("_law_word", none), "_law_word", "_law_word", defArgs s__law_word, defBody s__law_word, defScope s__law_word, [], []⟩
def d__law_digits : He.DefD := ⟨("_law_digits", none), "_law_digits", "_law_digits", defArgs s__law_digits, defBody s__law_digits, defScope s__law_digits, [], []⟩
def d__law_reads : He.DefD := ⟨("_law_reads", none), "_law_reads", "_law_reads", defArgs s__law_reads, defBody s__law_reads, defScope s__law_reads, [], []⟩
def d__law_due : He.DefD := ⟨("_law_due", none), "_law_due", "_law_due", defArgs s__law_due, defBody s__law_due, defScope s__law_due, [], []⟩
def d__law_integer : He.DefD := ⟨("_law_integer", none), "_law_integer", "_law_integer", defArgs s__law_integer, defBody s__law_integer, defScope s__law_integer, [], []⟩
def d__law_asked : He.DefD := ⟨("_law_asked", none), "_law_asked", "_law_asked", defArgs s__law_asked, defBody s__law_asked, defScope s__law_asked, [], []⟩
def d__law_forms : He.DefD := ⟨("_law_forms", none), "_law_forms", "_law_forms", defArgs s__law_forms, defBody s__law_forms, defScope s__law_forms, [], []⟩
def d__law_bent : He.DefD := ⟨("_law_bent", none), "_law_bent", "_law_bent", defArgs s__law_bent, defBody s__law_bent, defScope s__law_bent, [], []⟩
def d__law_strange : He.DefD := ⟨("_law_strange", none), "_law_strange", "_law_strange", defArgs s__law_strange, defBody s__law_strange, defScope s__law_strange, [], []⟩
def d__law_thing : He.DefD := ⟨("_law_thing", none), "_law_thing", "_law_thing", defArgs s__law_thing, defBody s__law_thing, defScope s__law_thing, [], []⟩
def d__law_singles : He.DefD := ⟨("_law_singles", none), "_law_singles", "_law_singles", defArgs s__law_singles, defBody s__law_singles, defScope s__law_singles, [], []⟩
def d__law_others : He.DefD := ⟨("_law_others", none), "_law_others", "_law_others", defArgs s__law_others, defBody s__law_others, defScope s__law_others, [], []⟩
def d_law : He.DefD := ⟨("law", none), "law", "law", defArgs s_law, defBody s_law, defScope s_law, [], []⟩
def d_BadNumber__init : He.DefD := ⟨("BadNumber", some "__init__"), "__init__", "BadNumber.__init__", defArgs s_BadNumber__init, defBody s_BadNumber__init, defScope s_BadNumber__init, [], []⟩
def d_BadSum__init : He.DefD := ⟨("BadSum", some "__init__"), "__init__", "BadSum.__init__", defArgs s_BadSum__init, defBody s_BadSum__init, defScope s_BadSum__init, [], []⟩
def d_BadQuotient__init : He.DefD := ⟨("BadQuotient", some "__init__"), "__init__", "BadQuotient.__init__", defArgs s_BadQuotient__init, defBody s_BadQuotient__init, defScope s_BadQuotient__init, [], []⟩
def d_BadLandscape__init : He.DefD := ⟨("BadLandscape", some "__init__"), "__init__", "BadLandscape.__init__", defArgs s_BadLandscape__init, defBody s_BadLandscape__init, defScope s_BadLandscape__init, [], []⟩
def d_BadWell__init : He.DefD := ⟨("BadWell", some "__init__"), "__init__", "BadWell.__init__", defArgs s_BadWell__init, defBody s_BadWell__init, defScope s_BadWell__init, [], []⟩
def d_BadWall__init : He.DefD := ⟨("BadWall", some "__init__"), "__init__", "BadWall.__init__", defArgs s_BadWall__init, defBody s_BadWall__init, defScope s_BadWall__init, [], []⟩
def d_BadShape__init : He.DefD := ⟨("BadShape", some "__init__"), "__init__", "BadShape.__init__", defArgs s_BadShape__init, defBody s_BadShape__init, defScope s_BadShape__init, [], []⟩
def d_BadRoll__init : He.DefD := ⟨("BadRoll", some "__init__"), "__init__", "BadRoll.__init__", defArgs s_BadRoll__init, defBody s_BadRoll__init, defScope s_BadRoll__init, [], []⟩
def d_BadOperator__init : He.DefD := ⟨("BadOperator", some "__init__"), "__init__", "BadOperator.__init__", defArgs s_BadOperator__init, defBody s_BadOperator__init, defScope s_BadOperator__init, [], []⟩
def d_BadSymbol__init : He.DefD := ⟨("BadSymbol", some "__init__"), "__init__", "BadSymbol.__init__", defArgs s_BadSymbol__init, defBody s_BadSymbol__init, defScope s_BadSymbol__init, [], []⟩
def d_BadStep__init : He.DefD := ⟨("BadStep", some "__init__"), "__init__", "BadStep.__init__", defArgs s_BadStep__init, defBody s_BadStep__init, defScope s_BadStep__init, [], []⟩
def d_BadPaper__init : He.DefD := ⟨("BadPaper", some "__init__"), "__init__", "BadPaper.__init__", defArgs s_BadPaper__init, defBody s_BadPaper__init, defScope s_BadPaper__init, [], []⟩
def d_BadName__init : He.DefD := ⟨("BadName", some "__init__"), "__init__", "BadName.__init__", defArgs s_BadName__init, defBody s_BadName__init, defScope s_BadName__init, [], []⟩
def d_BadScript__init : He.DefD := ⟨("BadScript", some "__init__"), "__init__", "BadScript.__init__", defArgs s_BadScript__init, defBody s_BadScript__init, defScope s_BadScript__init, [], []⟩
def d_Barred__init : He.DefD := ⟨("Barred", some "__init__"), "__init__", "Barred.__init__", defArgs s_Barred__init, defBody s_Barred__init, defScope s_Barred__init, [], []⟩
def d_Unlike__init : He.DefD := ⟨("Unlike", some "__init__"), "__init__", "Unlike.__init__", defArgs s_Unlike__init, defBody s_Unlike__init, defScope s_Unlike__init, [], []⟩
def d_HasResidue__init : He.DefD := ⟨("HasResidue", some "__init__"), "__init__", "HasResidue.__init__", defArgs s_HasResidue__init, defBody s_HasResidue__init, defScope s_HasResidue__init, [], []⟩
def d_NotKept__init : He.DefD := ⟨("NotKept", some "__init__"), "__init__", "NotKept.__init__", defArgs s_NotKept__init, defBody s_NotKept__init, defScope s_NotKept__init, [], []⟩
def d_TooMany__init : He.DefD := ⟨("TooMany", some "__init__"), "__init__", "TooMany.__init__", defArgs s_TooMany__init, defBody s_TooMany__init, defScope s_TooMany__init, [], []⟩
def d_NoSuch__init : He.DefD := ⟨("NoSuch", some "__init__"), "__init__", "NoSuch.__init__", defArgs s_NoSuch__init, defBody s_NoSuch__init, defScope s_NoSuch__init, [], []⟩
def d_Ended__init : He.DefD := ⟨("Ended", some "__init__"), "__init__", "Ended.__init__", defArgs s_Ended__init, defBody s_Ended__init, defScope s_Ended__init, [], []⟩
def fn_0 : List He.DefD := [d_ask_text, d_ask_digits, d_ten_to, d_digit_count, d_is_digits, d_whole_of, d_is_whole, d_pair_of, d_text_of, d_text_parts, d_number_parts, d_most_of_parts, d_read_number, d_number_text, d__law_jar, d__law_draw, d__law_pick, d__law_reach, d__law_like, d__law_classes, d__law_fields, d__law_parts_of, d__law_tried, d__law_refused, d__law_gcd]
def fn_1 : List He.DefD := [d__law_low, d__law_word, d__law_digits, d__law_reads, d__law_due, d__law_integer, d__law_asked, d__law_forms, d__law_bent, d__law_strange, d__law_thing, d__law_singles, d__law_others, d_law, d_BadNumber__init, d_BadSum__init, d_BadQuotient__init, d_BadLandscape__init, d_BadWell__init, d_BadWall__init, d_BadShape__init, d_BadRoll__init, d_BadOperator__init, d_BadSymbol__init, d_BadStep__init]
def fn_2 : List He.DefD := [d_BadPaper__init, d_BadName__init, d_BadScript__init, d_Barred__init, d_Unlike__init, d_HasResidue__init, d_NotKept__init, d_TooMany__init, d_NoSuch__init, d_Ended__init]
def fn : List He.DefD := fn_0 ++ fn_1 ++ fn_2
def fa_0 : List He.Fa := [.glo "ask_text", .glo "ask_digits", .glo "ten_to", .glo "digit_count", .glo "is_digits", .glo "whole_of", .glo "is_whole", .glo "pair_of", .glo "text_of", .glo "text_parts", .glo "number_parts", .glo "most_of_parts", .glo "read_number", .glo "number_text", .glo "_law_jar", .glo "_law_draw", .glo "_law_pick", .glo "_law_reach", .glo "_law_like", .glo "_law_classes", .glo "_law_fields", .glo "_law_parts_of", .glo "_law_tried", .glo "_law_refused", .glo "_law_gcd"]
def fa_1 : List He.Fa := [.glo "_law_low", .glo "_law_word", .glo "_law_digits", .glo "_law_reads", .glo "_law_due", .glo "_law_integer", .glo "_law_asked", .glo "_law_forms", .glo "_law_bent", .glo "_law_strange", .glo "_law_thing", .glo "_law_singles", .glo "_law_others", .glo "law", .glo "Refused", .glo "BadNumber", .glo "BadSum", .glo "BadQuotient", .glo "BadLandscape", .glo "BadWell", .glo "BadWall", .glo "BadShape", .glo "BadRoll", .glo "BadOperator", .glo "BadSymbol"]
def fa_2 : List He.Fa := [.glo "BadStep", .glo "BadPaper", .glo "BadName", .glo "BadScript", .glo "Barred", .glo "Unlike", .glo "HasResidue", .glo "NotKept", .glo "TooMany", .glo "NoSuch", .glo "Ended", .int "MOST_DIGITS" (60), .int "MOST_TEXT" (60000), .int "CHUNK" (1000), .str "FIGURES" "0123456789", .free "LookupError", .free "RuntimeError", .free "ValueError", .free "abs", .free "bool", .free "int", .free "isinstance", .free "len", .free "list", .free "max"]
def fa_3 : List He.Fa := [.free "range", .free "str", .free "tuple"]
def fa : List He.Fa := fa_0 ++ fa_1 ++ fa_2 ++ fa_3
/-- what is asked of the classes -/
def ex_0 (K : PySem.W.Frag) : Bool := LE.ownB K (He.ga K "BadNumber") && (LE.exmB K (He.ga K "BadNumber") (He.ga K "Refused") true && (LW.ownB K "BadNumber" true .v && (LW.ownB K "BadSum" true .v && (LW.ownB K "BadQuotient" true .v && (LW.ownB K "BadLandscape" true .v && (LW.ownB K "BadWell" true .v && (LW.ownB K "BadWall" true .v && (LW.ownB K "BadShape" true .v && (LW.ownB K "BadRoll" true .v && (LW.ownB K "BadOperator" true .v && (LW.ownB K "BadSymbol" true .v)))))))))))
def ex_1 (K : PySem.W.Frag) : Bool := LW.ownB K "BadStep" true .v && (LW.ownB K "BadPaper" true .v && (LW.ownB K "BadName" true .v && (LW.ownB K "BadScript" true .v && (LW.ownB K "Barred" true .v && (LW.ownB K "Unlike" true .v && (LW.ownB K "HasResidue" true .v && (LW.ownB K "NotKept" true .v && (LE.ownB K (He.ga K "TooMany") && (LE.exmB K (He.ga K "TooMany") (He.ga K "Refused") true && (LW.ownB K "TooMany" true .v && (LW.ownB K "NoSuch" false .l)))))))))))
def ex_2 (K : PySem.W.Frag) : Bool := LW.ownB K "Ended" false .r && (LW.baseB K (He.ga K "Refused") && (LW.nodB K && (He.eqO (PySem.W.nsIn K mainGlobals "gcd") (some (some (.builtin "math.gcd"))))))
def ex (K : PySem.W.Frag) : Bool := ex_0 K && (ex_1 K && (ex_2 K))
def tf : List He.Defn := [("_law_asked", none)]
def names_0 : List PySem.Str := ["ask_text", "ask_digits", "ten_to", "digit_count", "is_digits", "whole_of", "is_whole", "pair_of", "text_of", "text_parts", "number_parts", "most_of_parts", "read_number", "number_text", "_law_jar", "_law_draw", "_law_pick", "_law_reach", "_law_like", "_law_classes", "_law_fields", "_law_parts_of", "_law_tried", "_law_refused", "_law_gcd", "_law_low", "_law_add", "_law_sub", "_law_mul", "_law_over"]
def names_1 : List PySem.Str := ["_law_word", "_law_some", "_law_other", "_law_given", "_law_digits", "_law_reads", "_law_due", "_law_integer", "_law_asked", "_law_forms", "_law_bent", "_law_strange", "_law_thing", "_law_singles", "_law_others", "Refused", "BadNumber", "BadSum", "BadQuotient", "BadLandscape", "BadWell", "BadWall", "BadShape", "BadRoll", "BadOperator", "BadSymbol", "BadStep", "BadPaper", "BadName", "BadScript"]
def names_2 : List PySem.Str := ["Barred", "Unlike", "HasResidue", "NotKept", "TooMany", "NoSuch", "Ended", "MOST_DIGITS", "MOST_TEXT", "CHUNK", "FIGURES"]
def names : List PySem.Str := names_0 ++ names_1 ++ names_2
abbrev R : PySem.W.OpenRow := PySem.W.OpenLaw.row PySem.Challenge.rw_logless_k00_numbers_there_and_back
abbrev hk : PySem.W.Hook := LW.hookY fa fn [] tf ex
def ob (s : PySem.W.SharedT) : He.AlX := LW.obsY fa fn [] tf ex (HandSHeadRun.getT s)
theorem ob_eq (s : PySem.W.SharedT) : ob s = hk.obs s.abs := LW.obsY_eq (HandSHeadRun.getT_eq s)
theorem run (w : World) : HandSHeadRun.RunEqI R (PySem.W.view R.prog [0, 77]) hk ob 12000 names w := by
  delta HandSHeadRun.RunEqI
  kernel_rfl
end K00
end
section
set_option Elab.async false
set_option linter.all false
set_option maxRecDepth 100000
set_option maxHeartbeats 4000000
/-! readings by the kinds of the values; what a heap keeps -/
namespace U
open PySem PySem.Spec PyProof.Rows L2 LamX

/-! ### what is kept: all but tables of code objects; those still tell what they told -/
structure Gr (T : List (Addr × Str)) (H H' : Hp) : Prop where
  keep : ExtN H H'
  free : ∀ b, H' b = none → H b = none
  tabs : Tabs T H → Tabs T H'
section
variable {T : List (Addr × Str)} {H H1 H2 H' : Hp} {p : Addr} {o : HO} {K : PySem.W.Frag} {a : Addr} {xs ys : List V}
theorem Gr.refl (T : List (Addr × Str)) (H : Hp) : Gr T H H := ⟨ExtN.refl H, fun _ e => e, id⟩
theorem Gr.trans (a : Gr T H H1) (b : Gr T H1 H2) : Gr T H H2 := ⟨a.keep.trans b.keep, fun c e => a.free c (b.free c e), fun t => b.tabs (a.tabs t)⟩
theorem Gr.new (h : H p = none) : Gr T H (upd H p o) :=
  ⟨fun b u e _ => by rw [upd_ne (ne_of_none e h)]; exact e, fun b e => NdefX.upd_none e, fun t => t.ext fun b u e => by rw [upd_ne (ne_of_none e h)]; exact e⟩
theorem Gr.of_same (e : ∀ b o, H b = some o → H' b = some o) : Gr T H H' := by
  refine ⟨fun b o h _ => e b o h, fun b n => ?_, fun t => t.ext e⟩
  cases q : H b with
  | none => rfl
  | some o =>
    rw [e b o q] at n
    cases n
/-- a list that is new since H is written -/
theorem Gr.set (g : Gr T H H1) (h0 : H p = none) (h1 : H1 p = some (.lst xs)) : Gr T H (upd H1 p (.lst ys)) := by
  refine ⟨fun b u e n => ?_, fun b e => g.free b (NdefX.upd_none e), fun t => ?_⟩
  · rw [upd_ne (ne_of_none e h0)]; exact g.keep b u e n
  · intro q hq
    obtain ⟨ps, a1, a2, a3⟩ := g.tabs t q hq
    refine ⟨ps, ?_, a2, fun pos cv hc => ?_⟩
    · rw [upd_ne (fun z => by rw [z, h1] at a1; cases a1)]; exact a1
    · obtain ⟨c, e1, e2⟩ := a3 pos cv hc
      refine ⟨c, e1, ?_⟩
      rw [upd_ne (fun z => by rw [z, h1] at e2; unfold CodeO at e2; cases e2)]; exact e2
theorem Gr.lst (g : Gr T H H') (h : H p = some (.lst xs)) : H' p = some (.lst xs) := g.keep p _ h fun _ z => by cases z
theorem Gr.tup (g : Gr T H H') (h : H p = some (.tup xs)) : H' p = some (.tup xs) := g.keep p _ h fun _ z => by cases z
theorem Gr.rdL (g : Gr T H H') (h : Rd H p (.lst xs)) : Rd H' p (.lst xs) := by
  rcases h with h | ⟨o, h⟩
  · exact .inl (g.lst h)
  · exact .inr ⟨o, g.keep p _ h fun _ z => by cases z⟩
theorem Gr.rdT (g : Gr T H H') (h : Rd H p (.tup xs)) : Rd H' p (.tup xs) := by
  rcases h with h | ⟨o, h⟩
  · exact .inl (g.tup h)
  · exact .inr ⟨o, g.keep p _ h fun _ z => by cases z⟩
theorem Gr.sqL (g : Gr T H H') (h : SqL K H p xs) : SqL K H' p xs := h.elim (fun z => .inl (g.rdL z)) .inr
theorem Gr.sqT (g : Gr T H H') (h : SqT K H p xs) : SqT K H' p xs := h.elim (fun z => .inl (g.rdT z)) .inr
mutual
theorem Gr.dp (g : Gr T H H') : ∀ {v : V} {d : PyData}, Dp K H v d → Dp K H' v d
  | _, _, .non => .non
  | _, _, .bl b => .bl b
  | _, _, .int i => .int i
  | _, _, .str s => .str s
  | _, _, .lst h a => .lst (g.sqL h) (g.dpAll a)
  | _, _, .tup h a => .tup (g.sqT h) (g.dpAll a)
theorem Gr.dpAll (g : Gr T H H') : ∀ {vs : List V} {ds : List PyData}, DpAll K H vs ds → DpAll K H' vs ds
  | _, _, .nil => .nil
  | _, _, .cons h a => .cons (g.dp h) (g.dpAll a)
end
end
end U
end
section
set_option Elab.async false
set_option linter.all false
set_option maxRecDepth 100000
set_option maxHeartbeats 4000000
namespace U
open PySem PySem.Spec PyProof.Rows L2 LamX
section
variable {X : Cx} {K : PySem.W.Frag}
/-! ### operators by the kinds of both values -/
def uAdd (K : PySem.W.Frag) : R2 := fun x y H Q => match x, y with
  | .int i, .int j => Q (.int (i + j)) H
  | .str a, .str b => a.length + b.length ≤ sizeLine ∧ Q (.str (a ++ b)) H
  | .ref a, .ref b => rCat (.ref a) (.ref b) H Q ∨ rCatA K (.ref a) (.ref b) H Q
  | _, _ => False
theorem op_uAdd : OpR X (binaryOp .Add) (uAdd X.K) := by
  intro pins s σ H x y u v Q I rx ry h
  cases x <;> cases y <;> first
    | exact (show False from h).elim
    | exact op_add pins s σ H _ _ u v Q I rx ry ⟨_, _, rfl, rfl, h⟩
    | exact op_add_str pins s σ H _ _ u v Q I rx ry ⟨_, _, rfl, rfl, h⟩
    | exact (OpR.or op_cat op_catA) pins s σ H _ _ u v Q I rx ry h
def uMul : R2 := fun x y H Q => match x, y with
  | .int i, .int j => CMul i j ∧ Q (.int (i * j)) H
  | .ref a, .int j => rRep (.ref a) (.int j) H Q
  | _, _ => False
theorem op_uMul : OpR X (binaryOp .Mult) uMul := by
  intro pins s σ H x y u v Q I rx ry h
  cases x <;> cases y <;> first
    | exact (show False from h).elim
    | exact op_mul pins s σ H _ _ u v Q I rx ry ⟨_, _, rfl, rfl, h⟩
    | exact op_rep pins s σ H _ _ u v Q I rx ry h
def uEq (K : PySem.W.Frag) : R2 := fun x y H Q => match x, y with
  | .ref a, .ref b => rEqD K (.ref a) (.ref b) H Q
  | x, y => rEq x y H Q
theorem op_uEq (hu : X.A.units + 64 < cLine) : OpR X (compareOp .Eq) (uEq X.K) := by
  intro pins s σ H x y u v Q I rx ry h
  cases x <;> cases y <;> first
    | exact op_eqD hu pins s σ H _ _ u v Q I rx ry h
    | exact op_eq pins s σ H _ _ u v Q I rx ry h
def uNe (K : PySem.W.Frag) : R2 := fun x y H Q => match x, y with
  | .ref a, .ref b => rNeD K (.ref a) (.ref b) H Q
  | x, y => rNe x y H Q
theorem op_uNe (hu : X.A.units + 64 < cLine) : OpR X (compareOp .NotEq) (uNe X.K) := by
  intro pins s σ H x y u v Q I rx ry h
  cases x <;> cases y <;> first
    | exact op_neD hu pins s σ H _ _ u v Q I rx ry h
    | exact op_ne pins s σ H _ _ u v Q I rx ry h
def rInSg (neg : Bool) : R2 := fun x y H Q => ∃ (c : Nat) (z : Str), x = .str ⟨#[c]⟩ ∧ y = .str z ∧ Q (.bl (if neg then !decide (c ∈ z.cps.toList) else decide (c ∈ z.cps.toList))) H
def rInSt (neg : Bool) : R2 := fun x y H Q => ∃ i j, x = .str i ∧ y = .str j ∧ Q (.bl (if neg then !(!(Builtin.Str.occurrences j i 0 j.length 1).isEmpty) else !(Builtin.Str.occurrences j i 0 j.length 1).isEmpty)) H
def uIn (K : PySem.W.Frag) (neg : Bool) : R2 := fun x y H Q => match y with
  | .str z => rInSg neg x (.str z) H Q ∨ rInSt neg x (.str z) H Q
  | .ref a => rIn K neg x (.ref a) H Q
  | _ => False
theorem op_uIn : OpR X (compareOp .In) (uIn X.K false) := by
  intro pins s σ H x y u v Q I rx ry h
  cases y <;> first
    | exact (show False from h).elim
    | exact (OpR.or op_in_sign op_in_str) pins s σ H _ _ u v Q I rx ry h
    | exact op_in_seq pins s σ H _ _ u v Q I rx ry h
theorem op_uNotIn : OpR X (compareOp .NotIn) (uIn X.K true) := by
  intro pins s σ H x y u v Q I rx ry h
  cases y <;> first
    | exact (show False from h).elim
    | exact (OpR.or op_notIn_sign op_notIn_str) pins s σ H _ _ u v Q I rx ry h
    | exact op_notIn_seq pins s σ H _ _ u v Q I rx ry h
def rSl (K : PySem.W.Frag) : V → Option Int → Option Int → Hp → VK → Prop := fun x lo hi H Q => match x with
  | .str z => z.length ≤ sizeLine ∧ Q (.str (cutS z lo hi)) H
  | .ref a => rSlL K (.ref a) lo hi H Q ∨ rSlA K (.ref a) lo hi H Q
  | _ => False
theorem sl_u : SlR X (rSl X.K) := by
  intro pins s σ H x v vl vu lo hi sl Q I rx hs pl pu q
  cases x <;> first
    | exact (show False from q).elim
    | exact sl_str pins s σ H _ v vl vu lo hi sl Q I rx hs pl pu ⟨_, rfl, q⟩
    | exact (SlR.or sl_list sl_tupA) pins s σ H _ v vl vu lo hi sl Q I rx hs pl pu q
/-- a loop over a list or a tuple -/
def iSeq (K : PySem.W.Frag) (tl : TE) : TI := fun σ H R => tl σ H fun x H1 => ∃ a, x = .ref a ∧ ((∃ xs, SqL K H1 a xs ∧ R (Itl K a) H1) ∨ (∃ xs, SqT K H1 a xs ∧ R (Itt K a) H1))
theorem pi_seq {tg l : Expr} {tl : TE} (hl : PE X l tl) : PI X tg l (iSeq X.K tl) := by
  refine ⟨fun pins s σ H R I h => ?_⟩
  refine thn (hl.run pins s σ H _ I h) fun v s1 ⟨x, H1, I1, r1, a, e, q⟩ => ?_
  subst e
  cases r1
  rcases q with ⟨xs, hq, q⟩ | ⟨xs, hq, q⟩
  · obtain ⟨its, rv, p, hz⟩ := I1.list hq
    refine wpAny_pyIter_list p.isList ⟨s1.heap.objs.size, [s1.heap.objs.size], _, _, H1, rfl, I1.kept (t' := s1.toks) fun b o e => Heap.get?_push_of_some _ e, turn_list a _, ⟨_, Heap.get?_push_size _ rfl, rfl, rfl⟩, fun b hb => ?_, q⟩
    have e : b = s1.heap.objs.size := by simpa using hb
    subst e
    exact I1.fpOk (Nat.le_refl _) (I1.hok.fresh (Nat.le_refl _))
  · obtain ⟨its, rv, p, hz⟩ := I1.tuple hq
    refine wpAny_pyIter_tuple (show s1.heap.IsTuple a its.toArray from p) ⟨s1.heap.objs.size, [s1.heap.objs.size], _, _, H1, rfl, I1.kept (t' := s1.toks) fun b o e => Heap.get?_push_of_some _ e, turn_tuple a _, ⟨_, Heap.get?_push_size _ rfl, rfl, rfl⟩, fun b hb => ?_, q⟩
    have e : b = s1.heap.objs.size := by simpa using hb
    subst e
    exact I1.fpOk (Nat.le_refl _) (I1.hok.fresh (Nat.le_refl _))
/-- the module's constants -/
theorem pe_gint {x : Str} {i : Int} {pos : Pos} (hg : Gl X x) (hm : ∃ t, X.mg x = some (.int i t)) (hd : (x == ("__debug__" : Str)) = false := by decide) : PE X (.Name x pos) (tC (.int i)) := by
  obtain ⟨t, e⟩ := hm
  exact pe_glob hg e ⟨t, rfl⟩ hd
theorem pe_gstr {x z : Str} {pos : Pos} (hg : Gl X x) (hm : ∃ t, X.mg x = some (.str z t)) (hd : (x == ("__debug__" : Str)) = false := by decide) : PE X (.Name x pos) (tC (.str z)) := by
  obtain ⟨t, e⟩ := hm
  exact pe_glob hg e ⟨t, rfl⟩ hd
theorem passN {P : Program} {w : World} {X : Cx} : Passes (L2N.CX P w) X E0 := fun _ _ _ _ _ _ _ h => by
  obtain ⟨_, _, _, _, _, _, _, _, _, _, _, _, z⟩ := h
  exact z.elim
theorem noCX {P : Program} {w : World} {outer : List Env} : ∀ (s : Shared) (H : Hp) (e : Value) (s' : Shared), L2N.CX P w outer H s (fun _ _ _ => False) e s' → False := fun _ _ _ _ h => by
  obtain ⟨_, _, _, _, _, _, _, _, _, _, _, _, z⟩ := h
  exact z
/-- truth of any value -/
def tTr (K : PySem.W.Frag) (ta : TE) : TT := fun σ H Q => ta σ H fun x H' => ∃ k, TruV K x H' k ∧ Q k H'
theorem pt_tr {a : Expr} {ta : TE} (ha : PE X a ta) (he : ∀ whole, isTrue a X.env whole = (do let v ← whole; standAt a.pos; holding [v] (truthy v)) := by intro _; rfl) : PT X a (tTr X.K ta) := pt_truth ha he
end

/-! ### steps -/
section
variable {K : PySem.W.Frag} {D : Ends} {σ : L2.St} {H : Hp} {Q : VK} {QT : Bool → Hp → Prop} {QA : List V → Hp → Prop} {QO : Option Int → Hp → Prop} {QS : L2.St → Hp → Prop} {t u : TS} {te ta tb tc : TE} {tt tu : TT} {tA tB' : TA} {g : TG} {gs : TGs} {v x y z : V} {i j : Nat} {a b : Int} {p q : Addr}
theorem w_seq (h : t { D with nx := u D } σ H) : tSeq t u D σ H := h
theorem w_next (h : D.nx σ H) : tNext D σ H := h
theorem w_brk (h : D.bk σ H) : tBreak D σ H := h
theorem w_cont (h : D.ct σ H) : tCont D σ H := h
theorem w_drop (h : te σ H fun _ H1 => D.nx σ H1) : tDrop te D σ H := h
theorem w_ret (h : te σ H D.rt) : tRet te D σ H := h
theorem w_retN (h : D.rt .non H) : tRetN D σ H := h
theorem w_asg (h : te σ H fun x H1 => g x σ H1 D.nx) : tAsg te g D σ H := h
theorem w_gname (h : QS (σ.set i (some v)) H) : gName i v σ H QS := h
theorem w_gsub {r : TSet} (h : ta σ H fun o H1 => tb σ H1 fun k H2 => r o k v H2 fun H3 => QS σ H3) : gSub ta tb r v σ H QS := h
theorem w_if (h : tt σ H fun b H1 => if b = true then t D σ H1 else u D σ H1) : tIfS tt t u D σ H := h
theorem w_var (e : σ[i]? = some (some v)) (h : Q v H) : tVar i σ H Q := ⟨v, e, h⟩
theorem w_c (h : Q v H) : tC v σ H Q := h
theorem w_op {r : R2} (h : ta σ H fun x H1 => tb σ H1 fun y H2 => r x y H2 Q) : tOp r ta tb σ H Q := h
theorem w_un {r : V → Hp → VK → Prop} (h : ta σ H fun x H1 => r x H1 Q) : tUn r ta σ H Q := h
theorem w_I0 {f : Int → Int → V} (h : Q (f a b) H) : rI0 f (.int a) (.int b) H Q := ⟨a, b, rfl, rfl, h⟩
theorem w_I {C : Int → Int → Prop} {f : Int → Int → V} (c : C a b) (h : Q (f a b) H) : rI C f (.int a) (.int b) H Q := ⟨a, b, rfl, rfl, c, h⟩
theorem w_U {f : Int → V} (h : Q (f a) H) : rU f (.int a) H Q := ⟨a, rfl, h⟩
theorem w_add (h : Q (.int (a + b)) H) : uAdd K (.int a) (.int b) H Q := h
theorem w_adds {s r : Str} (l : s.length + r.length ≤ sizeLine) (h : Q (.str (s ++ r)) H) : uAdd K (.str s) (.str r) H Q := ⟨l, h⟩
theorem w_mul (c : CMul a b) (h : Q (.int (a * b)) H) : uMul (.int a) (.int b) H Q := ⟨c, h⟩
theorem w_eqI (h : Q (.bl (decide (a = b))) H) : uEq K (.int a) (.int b) H Q := ⟨rfl, by
  have e : decide (V.int a = V.int b) = decide (a = b) := by
    by_cases c : a = b
    · rw [c]; simp
    · rw [decide_eq_false c, decide_eq_false fun z => c (V.int.inj z)]
  rw [e]
  exact h⟩
theorem w_eqS {s r : Str} (h : Q (.bl (decide (s = r))) H) : uEq K (.str s) (.str r) H Q := ⟨rfl, by
  have e : decide (V.str s = V.str r) = decide (s = r) := by
    by_cases c : s = r
    · rw [c]; simp
    · rw [decide_eq_false c, decide_eq_false fun z => c (V.str.inj z)]
  rw [e]
  exact h⟩
theorem w_eqB {s r : Bool} (h : Q (.bl (decide (s = r))) H) : uEq K (.bl s) (.bl r) H Q := ⟨rfl, by
  have e : decide (V.bl s = V.bl r) = decide (s = r) := by cases s <;> cases r <;> rfl
  rw [e]
  exact h⟩
theorem w_neI (h : Q (.bl (!decide (a = b))) H) : uNe K (.int a) (.int b) H Q := ⟨rfl, by
  have e : decide (V.int a = V.int b) = decide (a = b) := by
    by_cases c : a = b
    · rw [c]; simp
    · rw [decide_eq_false c, decide_eq_false fun z => c (V.int.inj z)]
  rw [e]
  exact h⟩
theorem w_neS {s r : Str} (h : Q (.bl (!decide (s = r))) H) : uNe K (.str s) (.str r) H Q := ⟨rfl, by
  have e : decide (V.str s = V.str r) = decide (s = r) := by
    by_cases c : s = r
    · rw [c]; simp
    · rw [decide_eq_false c, decide_eq_false fun z => c (V.str.inj z)]
  rw [e]
  exact h⟩
theorem w_neB {s r : Bool} (h : Q (.bl (!decide (s = r))) H) : uNe K (.bl s) (.bl r) H Q := ⟨rfl, by
  have e : decide (V.bl s = V.bl r) = decide (s = r) := by cases s <;> cases r <;> rfl
  rw [e]
  exact h⟩
theorem w_test (h : te σ H fun x H' => ∃ k, x = .bl k ∧ QT k H') : tTest te σ H QT := h
theorem w_tB (h : te σ H fun x H' => ∃ k, x = .bl k ∧ QT k H') : L2.tB te σ H QT := h
theorem w_tr (h : te σ H fun x H' => ∃ k, TruV K x H' k ∧ QT k H') : tTr K te σ H QT := h
theorem w_exb {k : Bool} (h : QT k H) : ∃ k', V.bl k = V.bl k' ∧ QT k' H := ⟨k, rfl, h⟩
theorem w_exn {k : Bool} {R : Bool → Prop} (h : R k) : ∃ k', V.bl k = V.bl k' ∧ R k' := ⟨k, rfl, h⟩
theorem w_trB {k : Bool} (h : QT k H) : ∃ k', TruV K (.bl k) H k' ∧ QT k' H := ⟨k, rfl, h⟩
theorem w_and (h : tt σ H fun c H1 => if c = true then tu σ H1 QT else QT false H1) : tAnd tt tu σ H QT := h
theorem w_or (h : tt σ H fun c H1 => if c = true then QT true H1 else tu σ H1 QT) : tOr tt tu σ H QT := h
theorem w_not (h : tt σ H fun c H1 => QT (!c) H1) : tNot tt σ H QT := h
theorem w_andV (h : ta σ H fun x H1 => ∃ c, x = .bl c ∧ if c = true then tb σ H1 Q else Q (.bl false) H1) : tAndV ta tb σ H Q := h
theorem w_orV (h : ta σ H fun x H1 => ∃ c, x = .bl c ∧ if c = true then Q (.bl true) H1 else tb σ H1 Q) : tOrV ta tb σ H Q := h
theorem w_notV (h : ta σ H fun x H1 => ∃ c, x = .bl c ∧ Q (.bl (!c)) H1) : tNotV ta σ H Q := h
theorem w_ifE (h : tt σ H fun c H1 => if c = true then ta σ H1 Q else tb σ H1 Q) : tIf tt ta tb σ H Q := h
theorem w_nil (h : QA [] H) : tNil σ H QA := h
theorem w_cons (h : te σ H fun x H1 => tA σ H1 fun xs H2 => QA (x :: xs) H2) : tCons te tA σ H QA := h
theorem w_cb {r : List V → Hp → VK → Prop} (h : tA σ H fun vs H1 => r vs H1 Q) : tCB r tA σ H Q := h
theorem w_call {sp : Sp} {dvs : List V} {E : XK} (h : tA σ H fun vs H1 => sp (vs ++ dvs) H1 Q E) : tCall sp dvs E tA σ H Q := h
theorem w_call0 {sp : Sp} {E : XK} (h : tA σ H fun vs H1 => sp vs H1 Q E) : tCall sp [] E tA σ H Q := by
  show tA σ H fun vs H1 => sp (vs ++ []) H1 Q E
  have e : (fun vs H1 => sp (vs ++ []) H1 Q E) = fun vs H1 => sp vs H1 Q E := by
    funext vs H1
    rw [List.append_nil]
  rw [e]
  exact h
theorem w_callS {sp : Sp} {E : L2.St → XK} (h : tA σ H fun vs H1 => sp vs H1 Q (E σ)) : tCallS sp E tA σ H Q := h
theorem w_callK {sp : Sp} {gV : List V → List V → List V} {E : XK} (h : tA σ H fun vs H1 => tB' σ H1 fun zs H2 => sp (gV vs zs) H2 Q E) : tCallK sp gV E tA tB' σ H Q := h
theorem w_tup (h : tA σ H fun xs H1 => xs.length ≤ sizeLine ∧ ∀ p, H1 p = none → Q (.ref p) (upd H1 p (.tup xs))) : tTup tA σ H Q := h
theorem w_lst (h : tA σ H fun xs H1 => xs.length ≤ sizeLine ∧ ∀ p, H1 p = none → Q (.ref p) (upd H1 p (.lst xs))) : tLst tA σ H Q := h
theorem w_bm {T : String} {r : V → List V → Hp → VK → Prop} (h : te σ H fun x H1 => tyV K T x H1 ∧ tA σ H1 fun xs H2 => r x xs H2 Q) : tBM K T r te tA σ H Q := h
theorem w_bm0 {T : String} {r : V → List V → Hp → VK → Prop} (h : te σ H fun x H1 => tyV K T x H1 ∧ r x [] H1 Q) : tBM0 K T r te σ H Q := h
theorem w_nop (h : QO none H) : tNoPart σ H QO := h
theorem w_part (h : te σ H fun x H1 => ∃ i, x = .int i ∧ QO (some i) H1) : tPart te σ H QO := h
theorem w_exi {R : Int → Prop} (h : R a) : ∃ i, V.int a = V.int i ∧ R i := ⟨a, rfl, h⟩
theorem w_sl {r : V → Option Int → Option Int → Hp → VK → Prop} {tl th : TO} (h : te σ H fun x H1 => tl σ H1 fun l H2 => th σ H2 fun u H3 => r x l u H3 Q) : tSl r te tl th σ H Q := h
theorem w_isN (h : Q (.bl (decide (x = .non))) H) : (fun (x y : V) (H : Hp) (Q : VK) => y = V.non ∧ Q (.bl (decide (x = .non))) H) x .non H Q := ⟨rfl, h⟩
theorem w_iteT {A B : Prop} (h : A) : if true = true then A else B := by rw [if_pos rfl]; exact h
theorem w_iteF {A B : Prop} (h : B) : if false = true then A else B := by rw [if_neg Bool.false_ne_true]; exact h
theorem w_dec {c A B : Prop} [Decidable c] (h1 : c → A) (h2 : ¬ c → B) : if decide c = true then A else B := by
  by_cases e : c
  · rw [if_pos (decide_eq_true e)]; exact h1 e
  · rw [if_neg (by simpa using e)]; exact h2 e
theorem w_ndec {c A B : Prop} [Decidable c] (h1 : ¬ c → A) (h2 : c → B) : if (!decide c) = true then A else B := by
  by_cases e : c
  · rw [if_neg (by simp [e])]; exact h2 e
  · rw [if_pos (by simp [e])]; exact h1 e
theorem w_bool {c : Bool} {A B : Prop} (h1 : c = true → A) (h2 : c = false → B) : if c = true then A else B := by
  cases c
  · exact w_iteF (h2 rfl)
  · exact w_iteT (h1 rfl)
theorem w_yes {c : Bool} {A B : Prop} (e : c = true) (h : A) : if c = true then A else B := by rw [if_pos e]; exact h
theorem w_no {c : Bool} {A B : Prop} (e : c = false) (h : B) : if c = true then A else B := by rw [if_neg (by rw [e]; decide)]; exact h
end
end U
end
section
set_option Elab.async false
set_option linter.all false
set_option maxRecDepth 100000
set_option maxHeartbeats 4000000
/-! built-ins by the kinds of their arguments -/
namespace U
open PySem PySem.Spec PyProof.Rows L2 LamX
section
variable {X : Cx} {K : PySem.W.Frag}
/-- a list or a tuple -/
def Sq (K : PySem.W.Frag) (H : Hp) (a : Addr) (xs : List V) : Prop := SqL K H a xs ∨ SqT K H a xs
theorem Gr.sq {T : List (Addr × Str)} {H H' : Hp} {p : Addr} {xs : List V} (g : Gr T H H') (h : Sq K H p xs) : Sq K H' p xs := h.elim (fun z => .inl (g.sqL z)) fun z => .inr (g.sqT z)
/-- x[i] -/
def uIx (K : PySem.W.Frag) : R2 := fun x y H Q => match x, y with
  | .str z, .int i => ∃ c, z.length ≤ sizeLine ∧ atI z.cps.toList i = some c ∧ Q (.str ⟨#[c]⟩) H
  | .ref p, .int i => ∃ xs v, Sq K H p xs ∧ atI xs i = some v ∧ Q v H
  | _, _ => False
theorem ix_u : IxR X (uIx X.K) := by
  intro a b pins s σ H x y u v Q I rx ry h hs
  cases x <;> cases y <;> first
    | exact (show False from h).elim
    | (obtain ⟨c, h1, h2, h3⟩ := h
       exact ix_str a b pins s σ H _ _ u v Q I rx ry ⟨_, _, c, rfl, rfl, h1, h2, h3⟩ hs)
    | (obtain ⟨xs, c, h1, h2, h3⟩ := h
       rcases h1 with h1 | h1
       · exact ix_list a b pins s σ H _ _ u v Q I rx ry ⟨_, xs, _, c, rfl, rfl, h1, h2, h3⟩ hs
       · exact ix_tup a b pins s σ H _ _ u v Q I rx ry ⟨_, xs, _, c, rfl, rfl, h1, h2, h3⟩ hs)
/-- len(x) -/
def uLen (K : PySem.W.Frag) : List V → Hp → VK → Prop := fun vs H Q => match vs with
  | [.str z] => z.length ≤ sizeLine ∧ Q (.int z.length) H
  | [.ref p] => ∃ xs, Sq K H p xs ∧ Q (.int xs.length) H
  | _ => False
theorem cr_len : CallR X (.builtin "len") (uLen X.K) := by
  intro pins s σ H vs us Q I r h
  match vs, h with
  | [.str z], h => exact call_len_str pins s σ H _ us Q I r ⟨z, rfl, h.1, h.2⟩
  | [.ref p], h =>
    obtain ⟨xs, h1, h2⟩ := h
    exact call_len_seq pins s σ H _ us Q I r ⟨p, xs, rfl, h1, h2⟩
/-- sum(x) of ints -/
def uSum (K : PySem.W.Frag) : List V → Hp → VK → Prop := fun vs H Q => ∃ (a : Addr) (ns : List Int), vs = [V.ref a] ∧ Sq K H a (ns.map V.int) ∧ Q (.int ns.sum) H
theorem old_keptT {s : Shared} {l : Addr} {h' : Heap} (hk : ∀ b o, b ∉ [s.heap.objs.size] → (s.heap.push { cls := .type "tuple_iterator", data := .fields #[.ref l, .int 0 0] }).get? b = some o → h'.get? b = some o) :
    ∀ b o, s.heap.get? b = some o → h'.get? b = some o := fun b o e => hk b o (by simpa using Nat.ne_of_lt (Heap.lt_size e)) (Heap.get?_push_of_some _ e)
theorem sum_tup {prog : Program} {w : World} {A : Around} {E : Value → Shared → Prop} {s : Shared} {l : Addr} {its : List Value} {ns : List Int} {Q : Value → Shared → Prop} (hh : A.handled = none) (hl : s.heap.IsTuple l its.toArray) (hi : IntsAre its ns)
    (h : ∀ h' tk t', (∀ b o, s.heap.get? b = some o → h'.get? b = some o) → Q (.int ns.sum t') { s with heap := h', toks := tk }) : wpAny (model prog w) A (call (.builtin "sum") [.ref l]) Q E s := by
  obtain ⟨xs, e⟩ := hi.allInts.items
  have hn : numsOf (intItems xs).toList = ns := by rw [← e]; exact hi.numsOf
  rw [nums_intItems] at hn
  rw [e] at hl
  have hlt : l < s.heap.objs.size := by obtain ⟨_, e, _⟩ := hl; exact Heap.lt_size e
  refine call_sum_walkG (wpAny_pyIter_tuple hl ⟨_, _, _, _, _, _, numAt xs, rfl, Walks.tuple (A := A.in1) hh _ l (Nat.ne_of_lt hlt) (intItems xs), ⟨⟨_, Heap.get?_push_size _ rfl, rfl, rfl⟩, hl.at fun o e => Heap.get?_push_of_some _ e⟩, fun b hb => ?_, (fun _ _ => intItems_at), fun h' tk t' hk => ?_⟩)
  · show b < (s.heap.push _).objs.size
    rw [Heap.size_push]
    rcases List.mem_cons.mp hb with rfl | hb
    · exact Nat.lt_succ_self _
    · rcases List.mem_cons.mp hb with rfl | hb
      · exact Nat.lt_succ_of_lt hlt
      · cases hb
  · have := h h' tk t' (old_keptT hk)
    rw [preSum_eq]
    have e2 : (intItems xs).size = xs.size := by simp [intItems]
    rw [e2, List.take_of_length_le (by simp), hn]
    exact this
theorem cr_sum (hc : X.calm = true) : CallR X (.builtin "sum") (uSum X.K) := by
  intro pins s σ H vs us Q I r h
  obtain ⟨a, ns, rfl, hs | hs, q⟩ := h
  · exact L2.cr_sum hc pins s σ H _ us Q I r ⟨a, ns, rfl, hs, q⟩
  · obtain ⟨its, rv, ht, _⟩ := I.tuple hs
    rw [Vals.ref1 r]
    exact sum_tup (I.ok.hd hc) (show s.heap.IsTuple a its.toArray from ht) rv.ints fun h' tk t' hk => ⟨.int _, H, I.kept hk, ⟨_, rfl⟩, q⟩
/-- max(list, default=d) of ints -/
def rMaxDf (K : PySem.W.Frag) : List V → List V → Hp → VK → Prop := fun vs zs H Q => ∃ (a : Addr) (ns : List Int) (d : Int), vs = [V.ref a] ∧ zs = [.int d] ∧ SqL K H a (ns.map V.int) ∧ Q (.int (match ns with | [] => d | n :: r => r.foldl max n)) H
theorem reads_ints {h : Heap} : ∀ {us : List Value} {ns : List Int}, IntsAre us ns → ∃ as, ReadsAll h us (ns.map PyData.int) as
  | _, _, .nil => ⟨_, .nil⟩
  | _, _, .cons a t r => by
    obtain ⟨as, q⟩ := reads_ints r
    exact ⟨_, .cons (.int a t) q⟩
theorem depth_ints : ∀ ns : List Int, PyData.depthAll (ns.map PyData.int) ≤ 1
  | [] => Nat.zero_le _
  | n :: r => by
    show max _ _ ≤ 1
    exact Nat.max_le.mpr ⟨Nat.le_refl 1 |> fun _ => by first | exact Nat.zero_le _ | exact Nat.le_refl _ | simp [PyData.depth], depth_ints r⟩
theorem reads_int {h : Heap} {v : Value} {i : Int} {bs : List Addr} (r : Reads h v (.int i) bs) : ∃ t, v = .int i t := by
  cases r
  exact ⟨_, rfl⟩
theorem cr_maxD (hc : X.calm = true) (hu : X.A.units + 64 < cLine) : CallRK X (.builtin "max") [Str.ofString "default"] (rMaxDf X.K) := by
  intro pins s σ H vs zs us ws Q I r rz h
  obtain ⟨a, ns, d, rfl, rfl, hs, q⟩ := h
  obtain ⟨its, rv, hl, _⟩ := I.list hs
  rw [Vals.ref1 r]
  obtain ⟨w1, rfl, t1, rfl⟩ := vals1 rz
  obtain ⟨as, hr⟩ := reads_ints (h := s.heap) rv.ints
  have al : PySem.W.AlikeAll (ns.map PyData.int) := by
    refine ⟨fun x hx y hy => ?_, fun x hx => ?_⟩
    · obtain ⟨i, _, rfl⟩ := List.mem_map.mp hx
      obtain ⟨j, _, rfl⟩ := List.mem_map.mp hy
      rfl
    · obtain ⟨i, _, rfl⟩ := List.mem_map.mp hx
      intro z
      cases z
  refine PySem.W.max_list_default (l := a) (vs := its.toArray) (xs := ns.map PyData.int) (as := as) (d := .int d t1) (I.ok.hd hc) hl.isList (by simpa using hr) al (by have := depth_ints ns; omega) (fun e h' tk hk => ?_) (fun y ys i v h' tk bs e hv hrd hk => ?_)
  · have e2 : ns = [] := List.map_eq_nil_iff.mp e
    subst e2
    exact ⟨.int d, H, I.kept hk, ⟨_, rfl⟩, q⟩
  · cases ns with
    | nil => cases e
    | cons n r =>
      obtain ⟨rfl, rfl⟩ : PyData.int n = y ∧ r.map PyData.int = ys := by
        have := List.cons.inj e
        exact this
      rw [PySem.W.maxD_ints] at hrd
      obtain ⟨t, rfl⟩ := reads_int hrd
      exact ⟨.int _, H, I.kept hk, ⟨_, rfl⟩, q⟩
/-- int(x) -/
def uInt : List V → Hp → VK → Prop := fun vs H Q => match vs with
  | [.int i] => Q (.int i) H
  | [.bl k] => Q (.int (if k then 1 else 0)) H
  | [.str a] => ∃ n, PySem.intText? a = some n ∧ a.length ≤ 640 ∧ Q (.int n) H
  | _ => False
theorem cr_int : CallR X (.type "int") uInt := by
  intro pins s σ H vs us Q I r h
  match vs, h with
  | [.int i], h => exact call_int1 pins s σ H _ us Q I r (.inl ⟨i, rfl, h⟩)
  | [.bl k], h => exact call_int1 pins s σ H _ us Q I r (.inr ⟨k, rfl, h⟩)
  | [.str a], h =>
    obtain ⟨n, h1, h2, h3⟩ := h
    exact call_int_str pins s σ H _ us Q I r ⟨a, n, rfl, h1, h2, h3⟩
/-- str(i) -/
def uStr : List V → Hp → VK → Prop := fun vs H Q => match vs with
  | [.int i] => i.natAbs.log2 < 1920 ∧ Q (.str (toString i)) H
  | _ => False
theorem cr_str : CallR X (.type "str") uStr := by
  intro pins s σ H vs us Q I r h
  match vs, h with
  | [.int i], h => exact call_str_int pins s σ H _ us Q I r ⟨i, rfl, h⟩
/-- abs, min, max of ints -/
def uAbs : List V → Hp → VK → Prop := fun vs H Q => match vs with
  | [.int i] => Q (.int (i.natAbs : Int)) H
  | _ => False
theorem cr_abs : CallR X (.builtin "abs") uAbs := by
  intro pins s σ H vs us Q I r h
  match vs, h with
  | [.int i], h =>
    refine call_abs pins s σ H _ us Q I r ⟨i, rfl, ?_⟩
    have e : (if i < 0 then -i else i) = (i.natAbs : Int) := by split <;> omega
    rw [e]
    exact h
def uMax : List V → Hp → VK → Prop := fun vs H Q => match vs with
  | [.int i, .int j] => Q (.int (max i j)) H
  | [.int i, .int j, .int k] => Q (.int (max (max i j) k)) H
  | _ => False
theorem cr_max (hc : X.calm = true) : CallR X (.builtin "max") uMax := by
  intro pins s σ H vs us Q I r h
  match vs, h with
  | [.int i, .int j], h =>
    refine call_max2 hc pins s σ H _ us Q I r ⟨i, j, rfl, ?_⟩
    have e : (if j > i then j else i) = max i j := by split <;> omega
    rw [e]
    exact h
  | [.int i, .int j, .int k], h =>
    refine call_max3Nu hc pins s σ H _ us Q I r ⟨.int i, .int j, .int k, .int (max (max i j) k), rfl, ?_, h⟩
    have e : ∀ a b : Int, nuMax2 (.int a) (.int b) = some (.int (max a b)) := fun a b => by
      show (some (decide (a < b))).map (fun c => if c = true then V.int b else V.int a) = _
      by_cases z : a < b
      · rw [decide_eq_true z, show max a b = b by omega]; rfl
      · rw [decide_eq_false z, show max a b = a by omega]; rfl
    show (nuMax2 (.int i) (.int j)).bind _ = _
    rw [e]
    exact e _ _
def uMin : List V → Hp → VK → Prop := fun vs H Q => match vs with
  | [.int i, .int j] => Q (.int (min i j)) H
  | _ => False
theorem cr_min (hc : X.calm = true) : CallR X (.builtin "min") uMin := by
  intro pins s σ H vs us Q I r h
  match vs, h with
  | [.int i, .int j], h =>
    refine call_min2 hc pins s σ H _ us Q I r ⟨i, j, rfl, ?_⟩
    have e : (if j < i then j else i) = min i j := by split <;> omega
    rw [e]
    exact h
/-- list(x), tuple(x) -/
def uList (K : PySem.W.Frag) : List V → Hp → VK → Prop := fun vs H Q => match vs with
  | [.ref p] => ∃ xs, Sq K H p xs ∧ ∀ l, H l = none → Q (.ref l) (upd H l (.lst xs))
  | _ => False
theorem cr_list : CallR X (.type "list") (uList X.K) := by
  intro pins s σ H vs us Q I r h
  match vs, h with
  | [.ref p], h =>
    obtain ⟨xs, h1, h2⟩ := h
    exact call_list_of pins s σ H _ us Q I r ⟨p, xs, rfl, h1, h2⟩
def uTup (K : PySem.W.Frag) : List V → Hp → VK → Prop := fun vs H Q => match vs with
  | [.ref p] => ∃ ys, (SqL K H p ys ∧ ∀ l, H l = none → Q (.ref l) (upd H l (.tup ys))) ∨ (SqT K H p ys ∧ Q (.ref p) H)
  | _ => False
theorem cr_tuple : CallR X (.type "tuple") (uTup X.K) := by
  intro pins s σ H vs us Q I r h
  match vs, h with
  | [.ref p], h =>
    obtain ⟨xs, h⟩ := h
    exact call_tuple_of pins s σ H _ us Q I r ⟨p, xs, rfl, h⟩
end
end U
end
section
set_option Elab.async false
set_option linter.all false
set_option maxRecDepth 100000
set_option maxHeartbeats 4000000
/-! defs of the text: what they have, their calls; raises of own exceptions -/
namespace U
open PySem PySem.Spec PyProof.Rows L2 LamX
abbrev qSub : R2 := rI0 fun i j => .int (i - j)
abbrev qFdiv : R2 := rI CDiv fun i j => .int (i / j)
abbrev qMod : R2 := rI (fun _ j => 0 < j) fun i j => .int (i % j)
abbrev qPow : R2 := rI CPow fun i j => .int (i ^ j.toNat)
abbrev qAnd : R2 := rI0 fun i j => .int (Builtin.bitAnd i j)
abbrev qLt : R2 := rI0 fun i j => .bl (decide (i < j))
abbrev qLe : R2 := rI0 fun i j => .bl (decide (i ≤ j))
abbrev qGt : R2 := rI0 fun i j => .bl (decide (j < i))
abbrev qGe : R2 := rI0 fun i j => .bl (decide (j ≤ i))
abbrev qNeg : V → Hp → VK → Prop := rU fun i => .int (-i)
abbrev qJoin (K : PySem.W.Frag) : V → List V → Hp → VK → Prop := fun x xs H Q => ∃ a p, ∃ ys : List Str, x = .str a ∧ xs = [.ref p] ∧ (SqL K H p (ys.map V.str) ∨ SqT K H p (ys.map V.str)) ∧ (ys.map (·.length)).sum + ys.length * a.length ≤ 16777216 ∧ Q (.str (Txt.join a ys)) H
abbrev qSplit : V → List V → Hp → VK → Prop := fun x xs H Q => ∃ a b, x = .str a ∧ xs = [.str b] ∧ (b.length == 0) = false ∧ a.length + 2 ≤ sizeLine ∧ rNewStrs (Txt.split a b) H Q
/-- the def x stands, and keeps sp -/
structure Has (P : Program) (w : World) (K : PySem.W.Frag) (mg : Str → Option Value) (base : Heap) (x : Str) (k : Nat) (ps : List Str) (sp : Sp) : Prop where
  g : mg x = some (.ref (He.ga K x))
  kp : PySem.W.keepIn K (.ref (He.ga K x)) = true
  fn : ∃ fd, FnOk P w K mg base (L2N.CX P w) k (He.ga K x) fd ps sp ∧ Binds K fd ps []
theorem Has.imp {P : Program} {w : World} {K : PySem.W.Frag} {mg : Str → Option Value} {base : Heap} {x : Str} {k : Nat} {ps : List Str} {sp sp' : Sp} (h : Has P w K mg base x k ps sp) (i : ∀ vs H Q E, sp' vs H Q E → sp vs H Q E) : Has P w K mg base x k ps sp' := by
  obtain ⟨g, kp, fd, F, B⟩ := h
  exact ⟨g, kp, fd, F.imp i, B⟩
section
variable {X : Cx} {k n : Nat} {x : Str} {ps : List Str} {sp : Sp} {E : XK} {e : Expr} {es : List Expr} {t : TA} {p pos : Pos}
theorem pe_callU (h : Has X.prog X.w X.K X.mg X.base x k ps sp) (hr : Room n X.A) (hk : k ≤ n) (hg : Gl X x) (hx : Passes (L2N.CX X.prog X.w) X E) (ha : PA X (e :: es) t)
    (hdb : (x == ("__debug__" : Str)) = false := by decide) (he : starEach (e :: es) X.env = (false, eval e X.env) :: starEach es X.env := by rfl) (hpl : (backTo pos (starEach es X.env)).any (·.1) = false := by rfl) :
    PE X (.Call (.Name x p) (e :: es) [] pos) (tCall sp [] E t) := by
  obtain ⟨g, kp, fd, F, B⟩ := h
  exact pe_call F (hr.mono hk) hg g kp B .nil hx ha hdb he hpl
/-- C(v) with __init__(self, f): self.f = f, and so with two -/
def spI (C : Addr) (fs : List Str) : Sp := fun vs H Q _ => ∃ a ws, vs = .ref a :: ws ∧ ws.length = fs.length ∧ H a = some (exo a C none) ∧
  ∀ d H', H d = none → d ≠ a → H' = upd (upd H d (exd d (fs.zip ws).reverse)) a (exo a C (some d)) → Q .non H'
/-- raise C(e, ..) -/
def tRaise (C : Addr) (fs : List Str) (W : WX) (ta : TA) : TS := fun _ σ H => ta σ H fun vs H1 => vs.length = fs.length ∧ ∀ d, H1 d = none → W (.ref C) (some d) σ (upd H1 d (.xd (fs.zip vs).reverse))
theorem mk_read {C : Addr} {fs : List Str} {ta : TA} {σ : L2.St} {H : Hp} {Q : XK} (hf : fs.length ≤ 900) (h : ta σ H fun vs H1 => vs.length = fs.length ∧ ∀ d, H1 d = none → Q (.ref C) (some d) (upd H1 d (.xd (fs.zip vs).reverse)))
    (mono : ∀ {P R : List V → Hp → Prop}, (∀ vs H, P vs H → R vs H) → ta σ H P → ta σ H R) : tMkO C (spI C fs) [] ta σ H Q := by
  refine mono (fun vs H1 h => ?_) h
  obtain ⟨hl, q⟩ := h
  refine ⟨by omega, fun a na => ?_⟩
  rw [List.append_nil]
  refine ⟨a, vs, rfl, hl, upd_same, fun d H' nd da e => ?_⟩
  have nd1 : H1 d = none := by rw [upd_ne da] at nd; exact nd
  refine ⟨rfl, d, (fs.zip vs).reverse, by rw [e]; exact upd_same, by rw [e, upd_ne da]; exact upd_same, nd1, ?_⟩
  have eh : upd (del H' a) d (.xd (fs.zip vs).reverse) = upd H1 d (.xd (fs.zip vs).reverse) := by
    rw [e]
    funext b
    by_cases hb : b = d
    · rw [hb, upd_same, upd_same]
    · rw [upd_ne hb, upd_ne hb]
      by_cases ha : b = a
      · rw [ha, del_same, na]
      · rw [del_ne ha, upd_ne ha, upd_ne hb, upd_ne ha]
  rw [eh]
  exact q d nd1
/-- what an argument list tells is told of whatever follows -/
def MonoA (ta : TA) : Prop := ∀ (σ : L2.St) (H : Hp) (P R : List V → Hp → Prop), (∀ vs H, P vs H → R vs H) → ta σ H P → ta σ H R
def MonoE (te : TE) : Prop := ∀ (σ : L2.St) (H : Hp) (P R : VK), (∀ v H, P v H → R v H) → te σ H P → te σ H R
theorem mono_nil : MonoA tNil := fun _ _ _ _ i h => i _ _ h
theorem mono_cons {te : TE} {ta : TA} (h1 : MonoE te) (h2 : MonoA ta) : MonoA (tCons te ta) := fun σ H P R i h => h1 σ H _ _ (fun v H1 q => h2 σ H1 _ _ (fun vs H2 z => i _ _ z) q) h
theorem mono_var {i : Nat} : MonoE (tVar i) := fun _ _ _ _ i h => by
  obtain ⟨v, e, q⟩ := h
  exact ⟨v, e, i _ _ q⟩
theorem mono_c {v : V} : MonoE (tC v) := fun _ _ _ _ i h => i _ _ h
theorem mono_cb {r : List V → Hp → VK → Prop} {ta : TA} (h1 : MonoA ta) (h2 : ∀ vs H P R, (∀ v H, P v H → R v H) → r vs H P → r vs H R) : MonoE (tCB r ta) := fun σ H P R i h => h1 σ H _ _ (fun vs H1 q => h2 _ _ _ _ i q) h
theorem mono_abs {ta : TA} (h1 : MonoA ta) : MonoE (tCB uAbs ta) := mono_cb h1 fun vs H P R i h => by
  unfold uAbs at h ⊢
  split at h
  · exact i _ _ h
  · exact h
theorem ps_raiseU {W : WX} {C : Addr} {fs : List Str} {fd : FuncData} {ps : List Str} {rp : Pos} (hc : X.calm = true) (tk : L2N.Takes X W) (O : LE.Own X.K C)
    (F1 : FnOk X.prog X.w X.K X.mg X.base (L2N.CX X.prog X.w) 1 (He.ma X.K C "__init__") fd ps (spI C fs)) (hb : Binds X.K fd ps []) (hr : Room n X.A) (hk : 2 ≤ n) (hg : Gl X x) (hm : X.mg x = some (.ref C)) (hf : fs.length ≤ 900) (mono : MonoA t) (ha : PA X (e :: es) t)
    (hdb : (x == ("__debug__" : Str)) = false := by decide) (he : starEach (e :: es) X.env = (false, eval e X.env) :: starEach es X.env := by rfl) (hpl : (backTo pos (starEach es X.env)).any (·.1) = false := by rfl) :
    PS X (.Raise (some (.Call (.Name x p) (e :: es) [] pos)) none rp) (tRaise C fs W t) := by
  have h := L2N.ps_raise (pos := rp) hc tk (LE.pmk_oexN (p := p) (pos := pos) O.oex O.ini O.tyI F1 (hr.mono hk) hb noCX hg hm ha hdb he hpl)
  exact ⟨fun pins s σ H D I q => h.run pins s σ H D I (mk_read hf q (fun i z => mono _ _ _ _ i z))⟩
end
/-! ### __init__ -/
section
variable {P : Program} {w : World} {K : PySem.W.Frag} {mg : Str → Option Value} {base : Heap} {f C : Addr} {fd : FuncData} {x1 q1 : Str} {ar : Arguments} {sc : Scope} {a b : Str}
theorem ok_init1 {p1 p2 p3 p4 : Pos} (F : FunD K x1 q1 ar [.Assign [.Attribute (.Name "self" p1) a p2] (.Name a p3) p4] sc [] [] f fd) (S : FnScope ["self", a] ["self", a] sc) (O : LE.Own K C) (no : PySem.W.findIn K (.ref C) a = some none)
    (h1 : sc.names.lookup ("self" : Str) = some .local) (h2 : sc.names.lookup a = some .local) (hd : (a == ("__debug__" : Str)) = false) (hcd : (a == ("__classdict__" : Str)) = false)
    (hs : ∀ (cdv : Value) (L : Addr), swapsWith (.Name a p3) (some (.Attribute (.Name "self" p1) a p2)) p4.line (envOfC q1 sc L f cdv) = pure false) : FnOk P w K mg base (L2N.CX P w) 1 f fd ["self", a] (spI C [a]) := by
  refine F.ok S (fun vs H Q E h => ?_) (fun cdv A outer s H vs Q E hr h => ?_)
  · obtain ⟨a, ws, rfl, hl, _⟩ := h
    show ws.length + 1 = 2
    have e : ws.length = 1 := hl
    omega
  · obtain ⟨o, ws, rfl, hl, ho, q⟩ := h
    match ws, hl with
    | [v], _ =>
      refine ⟨_, pss_one (ps_ost (pe_var (i := 0) rfl (.inl h1)) (pe_var (i := 1) rfl (.inl h2) hd hcd) (hs cdv _)), ?_⟩
      refine ⟨v, rfl, .ref o, rfl, o, C, rfl, O.oex, no, .inl ⟨ho, fun d nd da => ?_⟩⟩
      exact q d _ nd da rfl
theorem ok_init2 {p1 p2 p3 p4 r1 r2 r3 r4 : Pos} (F : FunD K x1 q1 ar [.Assign [.Attribute (.Name "self" p1) a p2] (.Name a p3) p4, .Assign [.Attribute (.Name "self" r1) b r2] (.Name b r3) r4] sc [] [] f fd) (S : FnScope ["self", a, b] ["self", a, b] sc) (O : LE.Own K C) (no : PySem.W.findIn K (.ref C) a = some none) (no2 : PySem.W.findIn K (.ref C) b = some none)
    (h1 : sc.names.lookup ("self" : Str) = some .local) (h2 : sc.names.lookup a = some .local) (h3 : sc.names.lookup b = some .local) (hd : (a == ("__debug__" : Str)) = false) (hcd : (a == ("__classdict__" : Str)) = false) (hd2 : (b == ("__debug__" : Str)) = false) (hcd2 : (b == ("__classdict__" : Str)) = false)
    (hs : ∀ (cdv : Value) (L : Addr), swapsWith (.Name a p3) (some (.Attribute (.Name "self" p1) a p2)) p4.line (envOfC q1 sc L f cdv) = pure false) (hs2 : ∀ (cdv : Value) (L : Addr), swapsWith (.Name b r3) (some (.Attribute (.Name "self" r1) b r2)) r4.line (envOfC q1 sc L f cdv) = pure false) : FnOk P w K mg base (L2N.CX P w) 1 f fd ["self", a, b] (spI C [a, b]) := by
  refine F.ok S (fun vs H Q E h => ?_) (fun cdv A outer s H vs Q E hr h => ?_)
  · obtain ⟨a, ws, rfl, hl, _⟩ := h
    show ws.length + 1 = 3
    have e : ws.length = 2 := hl
    omega
  · obtain ⟨o, ws, rfl, hl, ho, q⟩ := h
    match ws, hl with
    | [v, u], _ =>
      refine ⟨_, pss_cons (ps_ost (pe_var (i := 0) rfl (.inl h1)) (pe_var (i := 1) rfl (.inl h2) hd hcd) (hs cdv _)) (pss_one (ps_ost (pe_var (i := 0) rfl (.inl h1)) (pe_var (i := 2) rfl (.inl h3) hd2 hcd2) (hs2 cdv _))), ?_⟩
      refine ⟨v, rfl, .ref o, rfl, o, C, rfl, O.oex, no, .inl ⟨ho, fun d nd da => ?_⟩⟩
      refine ⟨u, rfl, .ref o, rfl, o, C, rfl, O.oex, no2, .inr ⟨d, [(a, v)], upd_same, by rw [upd_ne da]; exact upd_same, (by show 1 ≤ 900; decide), ?_⟩⟩
      refine q d _ nd da ?_
      funext c
      by_cases hc : c = d
      · rw [hc, upd_same, upd_ne da, upd_same] <;> rfl
      · rw [upd_ne hc]
        by_cases ho2 : c = o
        · rw [ho2, upd_same, upd_same]
        · rw [upd_ne ho2, upd_ne ho2, upd_ne hc, upd_ne hc]
end
end U
end
section
set_option Elab.async false
set_option linter.all false
set_option maxRecDepth 100000
set_option maxHeartbeats 4000000
namespace U
open PySem PySem.Spec PyProof.Rows L2 LamX
/-- the def x, called with keywords -/
structure HasK (P : Program) (w : World) (K : PySem.W.Frag) (mg : Str → Option Value) (base : Heap) (x : Str) (k : Nat) (ps : List Str) (n : Nat) (ks : List Str) (sp : Sp) : Prop where
  g : mg x = some (.ref (He.ga K x))
  kp : PySem.W.keepIn K (.ref (He.ga K x)) = true
  fn : ∃ fd, FnOk P w K mg base (L2N.CX P w) k (He.ga K x) fd ps sp ∧ KBn K fd ps n ks (fun us ws => us ++ ws) (fun vs zs => vs ++ zs)
section
variable {X : Cx} {k n m : Nat} {x : Str} {ps ks : List Str} {sp : Sp} {E : XK} {e : Expr} {es : List Expr} {kws : List Keyword} {t tk : TA} {p pos : Pos}
theorem pe_callKU (h : HasK X.prog X.w X.K X.mg X.base x k ps m ks sp) (hr : Room n X.A) (hk : k ≤ n) (hg : Gl X x) (hx : Passes (L2N.CX X.prog X.w) X E) (ha : PA X (e :: es) t) (hkw : PK X kws tk)
    (hall : (backToKw pos (keywordEach kws X.env)).all (·.1.isSome) = true := by rfl) (hks : (backToKw pos (keywordEach kws X.env)).filterMap (·.1) = ks := by rfl)
    (hdb : (x == ("__debug__" : Str)) = false := by decide) (he : starEach (e :: es) X.env = (false, eval e X.env) :: starEach es X.env := by rfl)
    (hpl : ((backTo pos (starEach (e :: es) X.env)).any (·.1) || (backToKw pos (keywordEach kws X.env)).any (·.1.isNone)) = false := by rfl) :
    PE X (.Call (.Name x p) (e :: es) kws pos) (tCallN m ks.length sp (fun vs zs => vs ++ zs) E t tk) := by
  obtain ⟨g, kp, fd, F, B⟩ := h
  exact pe_callN F (hr.mono hk) hg g kp B hx ha hkw hall hks hdb he hpl
end
section
variable {P : Program} {w : World} {K : PySem.W.Frag} {mg : Str → Option Value} {base : Heap} {x qual : Str} {params : Arguments} {body : List Stmt} {scope : Scope} {f : Addr} {fd : FuncData} {ps : List Str}
theorem kbn_of {n : Nat} {ks : List Str} (F : FunD K x qual params body scope [] [] f fd)
    (h : ∀ (kV doc pm : Value) (an : Option Addr) (cdv ct : Value) (us ws : List Value), us.length = n → ws.length = ks.length → bindArgs (PySem.W.fnOf x qual params body scope .none kV doc pm an cdv ct) ⟨us, ks.zip ws⟩ = pure (ps.zip (us ++ ws))) :
    KBn K fd ps n ks (fun us ws => us ++ ws) (fun vs zs => vs ++ zs) := by
  obtain ⟨oc, od, dV, kV, doc, pm, an, cdv, ct, osl, rfl, lk, hcd, hD, hK⟩ := F.ex
  rcases hD with ⟨_, rfl⟩ | ⟨e, _⟩
  · exact ⟨fun s us ws _ h1 h2 => .of_eq (h kV doc pm an cdv ct us ws h1 h2), fun r1 r2 => r1.append r2⟩
  · exact absurd rfl e
end
end U
end
section
set_option Elab.async false
set_option linter.all false
set_option maxRecDepth 100000
/-! calls with keywords alone -/
namespace U
open PySem PySem.Spec PyProof.Rows L2
structure HasK0 (P : Program) (w : World) (K : PySem.W.Frag) (mg : Str → Option Value) (base : Heap) (x : Str) (k : Nat) (ps ks : List Str) (gW : List Value → List Value) (gV : List V → List V) (sp : Sp) : Prop where
  g : mg x = some (.ref (He.ga K x))
  kp : PySem.W.keepIn K (.ref (He.ga K x)) = true
  fn : ∃ fd, FnOk P w K mg base (L2N.CX P w) k (He.ga K x) fd ps sp ∧ KBn K fd ps 0 ks (fun _ ws => gW ws) (fun _ zs => gV zs)
def tCallK0 (m : Nat) (sp : Sp) (gV : List V → List V) (E : XK) (tk : TA) : TE := fun σ H Q => tk σ H fun zs H2 => zs.length = m ∧ sp (gV zs) H2 Q E
section
variable {X : Cx} {k n : Nat} {x : Str} {ps ks : List Str} {sp : Sp} {E : XK} {kws : List Keyword} {tk : TA} {p pos : Pos} {gW : List Value → List Value} {gV : List V → List V}
theorem pe_callKU0 (h : HasK0 X.prog X.w X.K X.mg X.base x k ps ks gW gV sp) (hr : Room n X.A) (hkn : k ≤ n) (hg : Gl X x) (hx : Passes (L2N.CX X.prog X.w) X E) (hkw : PK X kws tk)
    (hall : (backToKw pos (keywordEach kws X.env)).all (·.1.isSome) = true := by rfl) (hks : (backToKw pos (keywordEach kws X.env)).filterMap (·.1) = ks := by rfl)
    (hdb : (x == ("__debug__" : Str)) = false := by decide)
    (hpl : ((backTo pos (starEach [] X.env)).any (·.1) || (backToKw pos (keywordEach kws X.env)).any (·.1.isNone)) = false := by rfl) :
    PE X (.Call (.Name x p) [] kws pos) (tCallK0 ks.length sp gV E tk) := by
  obtain ⟨g, kp, fd, F, B⟩ := h
  refine ⟨fun pins s σ H Q I h => ?_⟩
  refine wpAny_Call_Name_kw (ld_glob I hg g ?_ hdb)
  refine PySem.W.callWith_KW0 (h₀ := X.base) I.ok.mod.kin kp hall ?_ hpl
  refine thn (hkw.run pos pins s σ H _ I h) fun ws s2 ⟨zs, H2, I2, rz, l2, q2⟩ => ⟨I2.kIn, ?_⟩
  rw [hks]
  exact run_fnN (F.mono hkn) hr B hx I2 .nil rz rfl l2 q2
end
section
variable {K : PySem.W.Frag} {x qual : Str} {params : Arguments} {body : List Stmt} {scope : Scope} {f : Addr} {fd : FuncData} {ps : List Str}
theorem kbn0_of {ks : List Str} {gW : List Value → List Value} {gV : List V → List V} (F : FunD K x qual params body scope [] [] f fd)
    (h : ∀ (kV doc pm : Value) (an : Option Addr) (cdv ct : Value) (ws : List Value), ws.length = ks.length → bindArgs (PySem.W.fnOf x qual params body scope .none kV doc pm an cdv ct) ⟨[], ks.zip ws⟩ = pure (ps.zip (gW ws)))
    (hr : ∀ {zs : List V} {ws : List Value}, Vals zs ws → Vals (gV zs) (gW ws)) :
    KBn K fd ps 0 ks (fun _ ws => gW ws) (fun _ zs => gV zs) := by
  obtain ⟨oc, od, dV, kV, doc, pm, an, cdv, ct, osl, rfl, lk, hcd, hD, hK⟩ := F.ex
  rcases hD with ⟨_, rfl⟩ | ⟨e, _⟩
  · refine ⟨fun s us ws _ h1 h2 => ?_, fun r1 r2 => hr r2⟩
    match us, h1 with
    | [], _ => exact .of_eq (h kV doc pm an cdv ct ws h2)
  · exact absurd rfl e
end
end U
end
section
set_option Elab.async false
set_option linter.all false
set_option maxRecDepth 100000
set_option maxHeartbeats 4000000
/-! loops and comprehensions by what the iterator yields -/
namespace U
open PySem PySem.Spec PyProof.Rows L2 LamX Evl
section
variable {K : PySem.W.Frag} {T : List (Addr × Str)} {J : It} {H H1 : Hp} {n : Nat} {yl : Nat → V → Hp → Prop}
/-- wherever what stood at H1 stands, J yields n things, the i-th one as yl says -/
def Yl (T : List (Addr × Str)) (J : It) (H1 : Hp) (n : Nat) (yl : Nat → V → Hp → Prop) : Prop :=
  ∀ H', Gr T H1 H' → (∀ i, i < n → J.go i H') ∧ (∀ i, n ≤ i → J.stop i H') ∧ ∀ i x H'', i < n → J.yld i H' x H'' → Gr T H' H'' ∧ yl i x H''
theorem yl_list {a : Addr} {xs : List V} (h : SqL K H1 a xs) : Yl T (Itl K a) H1 xs.length fun i x _ => xs[i]? = some x := fun H' g => by
  have h' := g.sqL h
  refine ⟨fun i hi => ⟨xs, xs[i], h', List.getElem?_eq_getElem hi⟩, fun i hi => ⟨xs, h', hi⟩, fun i x H'' hi y => ?_⟩
  obtain ⟨e, f⟩ := y
  rw [e]
  exact ⟨Gr.refl _ _, f xs h'⟩
theorem yl_tup {a : Addr} {xs : List V} (h : SqT K H1 a xs) : Yl T (Itt K a) H1 xs.length fun i x _ => xs[i]? = some x := fun H' g => by
  have h' := g.sqT h
  refine ⟨fun i hi => ⟨xs, xs[i], h', List.getElem?_eq_getElem hi⟩, fun i hi => ⟨xs, h', hi⟩, fun i x H'' hi y => ?_⟩
  obtain ⟨e, f⟩ := y
  rw [e]
  exact ⟨Gr.refl _ _, f xs h'⟩
theorem yl_rng {lo : Int} {n : Nat} : Yl T (Itr lo n) H1 n fun i x _ => x = .int (lo + i) := fun H' g => by
  refine ⟨fun i hi => hi, fun i hi => hi, fun i x H'' hi y => ?_⟩
  obtain ⟨e, f⟩ := y
  rw [e]
  exact ⟨Gr.refl _ _, f⟩
theorem yl_enum {a : Addr} {xs : List V} (h : SqL K H1 a xs) : Yl T (Ite K a) H1 xs.length fun i x H' => ∃ p y, x = .ref p ∧ H' p = some (.tup [.int (i : Nat), y]) ∧ xs[i]? = some y := fun H' g => by
  have h' := g.sqL h
  refine ⟨fun i hi => ⟨xs, xs[i], h', List.getElem?_eq_getElem hi⟩, fun i hi => ⟨xs, h', hi⟩, fun i x H'' hi y => ?_⟩
  obtain ⟨p, z, e1, e2, e3, f⟩ := y
  rw [e3]
  exact ⟨Gr.new e2, p, z, e1, upd_same, f xs h'⟩
theorem yl_imp {yl' : Nat → V → Hp → Prop} (Y : Yl T J H1 n yl) (i : ∀ k x H, k < n → yl k x H → yl' k x H) : Yl T J H1 n yl' := fun H' g => by
  obtain ⟨a, b, c⟩ := Y H' g
  exact ⟨a, b, fun k x H'' hk y => ⟨(c k x H'' hk y).1, i k x H'' hk (c k x H'' hk y).2⟩⟩
theorem set_of {p : Addr} {xs ys : List V} (g : Gr T H H1) (h0 : H p = none) (h1 : H1 p = some (.lst xs)) : Gr T H (upd H1 p (.lst ys)) := g.set h0 h1
/-- what a comprehension asks of its iterator -/
def Lc (J : It) (g : TG) (tt : TT) (te : TE) (vs : List Nat) (σ : L2.St) (Q : VK) (H1 : Hp) : Prop := ∀ D, H1 D = none → ∃ W : Nat → Nat → Hp → Prop, (∃ m, W 0 m (upd H1 D (.lst []))) ∧ ∀ i m H, W i m H →
      (J.stop i H ∧ Q (.ref D) H) ∨ (J.go i H ∧ ∃ Nx : Hp → Prop, (∀ H', Nx H' → ∃ m', m' < m ∧ W (i + 1) m' H') ∧ ∀ x H', J.yld i H x H' → g x (wipe σ vs) H' fun σ2 H2 => wipe σ2 vs = wipe σ vs ∧ tt σ2 H2 fun b H3 =>
        if b = true then te σ2 H3 fun y H4 => ∃ acc, H4 D = some (.lst acc) ∧ acc.length < sizeLine ∧ Nx (upd H4 D (.lst (acc ++ [y]))) else Nx H3)
/-- what a turn is to show: the test's answer b, the item y -/
def Turn1 (T : List (Addr × Str)) (tt : TT) (te : TE) (σ2 : L2.St) (H2 : Hp) (b : Bool) (y : V) : Prop :=
  ∀ (Yes : VK) (No : Hp → Prop), (b = true → ∀ H4, Gr T H2 H4 → Yes y H4) → (b = false → ∀ H3, Gr T H2 H3 → No H3) → tt σ2 H2 fun c H3 => if c = true then te σ2 H3 Yes else No H3
theorem lcG {g : TG} {tt : TT} {te : TE} {vs : List Nat} {σ : L2.St} {Q : VK} (Y : Yl T J H1 n yl) (hz : n ≤ 100000) (f : Nat → Bool) (v : Nat → V)
    (step : ∀ i x H2 (R : L2.St → Hp → Prop), i < n → Gr T H1 H2 → yl i x H2 → (∀ σ2, wipe σ2 vs = wipe σ vs → Turn1 T tt te σ2 H2 (f i) (v i) → R σ2 H2) → g x (wipe σ vs) H2 R)
    (fin : ∀ D H3, Gr T H1 H3 → H1 D = none → H3 D = some (.lst (given n f v)) → Q (.ref D) H3) : Lc J g tt te vs σ Q H1 := by
  intro D hD
  refine ⟨fun i m H => m = n - i ∧ i ≤ n ∧ Gr T H1 H ∧ H D = some (.lst (given i f v)), ⟨n, by simp, Nat.zero_le _, Gr.new hD, upd_same⟩, fun i m H w => ?_⟩
  obtain ⟨em, hi, gr, hd⟩ := w
  obtain ⟨y1, y2, y3⟩ := Y H gr
  rcases Nat.lt_or_ge i n with hlt | hge
  · refine .inr ⟨y1 i hlt, fun H' => Gr T H1 H' ∧ H' D = some (.lst (given (i + 1) f v)), fun H' hN => ⟨n - (i + 1), by omega, rfl, by omega, hN.1, hN.2⟩, fun x H' hy => ?_⟩
    obtain ⟨gy, hyl⟩ := y3 i x H' hlt hy
    refine step i x H' _ hlt (gr.trans gy) hyl fun σ2 q1 q2 => ⟨q1, ?_⟩
    have hd2 := gy.lst hd
    refine q2 _ _ (fun hf H4 g4 => ?_) (fun hf H3 g3 => ?_)
    · have hd4 := g4.lst hd2
      have hl := given_len i f v
      refine ⟨given i f v, hd4, sz_lt (by omega), (((gr.trans gy).trans g4).set hD hd4), ?_⟩
      rw [upd_same, given_yes hf]
    · refine ⟨(gr.trans gy).trans g3, ?_⟩
      rw [g3.lst hd2, given_no hf]
  · have e : i = n := by omega
    subst e
    exact .inl ⟨y2 i (Nat.le_refl _), fin D H gr hD hd⟩
theorem given_list {xs : List V} {f : Nat → Bool} {v : Nat → V} {p : V → Bool} {w : V → V} (hf : ∀ i x, xs[i]? = some x → f i = p x) (hv : ∀ i x, xs[i]? = some x → v i = w x) : given xs.length f v = (xs.filter p).map w := by
  have key : ∀ n, n ≤ xs.length → given n f v = ((xs.take n).filter p).map w := by
    intro n
    induction n with
    | zero => intro _; rfl
    | succ n ih =>
      intro hn
      have hx : xs[n]? = some xs[n] := List.getElem?_eq_getElem hn
      rw [List.take_add_one, hx]
      show _ = ((xs.take n ++ [xs[n]]).filter p).map w
      rw [List.filter_append, List.map_append, ← ih (by omega)]
      cases hb : f n with
      | true => rw [given_yes hb, List.filter_cons, if_pos (by rw [← hf n _ hx]; exact hb), hv n _ hx] <;> rfl
      | false => rw [given_no hb, List.filter_cons, if_neg (by rw [← hf n _ hx, hb]; decide)]; simp
  have := key xs.length (Nat.le_refl _)
  rw [List.take_length] at this
  exact this
end
/-! ### at a comprehension: over a list or tuple, a range, an enumeration, pairs -/
section
variable {K : PySem.W.Frag} {T : List (Addr × Str)} {σ : L2.St} {H H1 : Hp} {Q : VK} {tl : TE} {ta : TA} {g : TG} {j j2 : Nat} {tt : TT} {te : TE} {vs : List Nat}
def LcS (K : PySem.W.Frag) (g : TG) (tt : TT) (te : TE) (vs : List Nat) (σ : L2.St) (Q : VK) (x : V) (H1 : Hp) : Prop := ∃ a, x = .ref a ∧ ((∃ xs, SqL K H1 a xs ∧ Lc (Itl K a) g tt te vs σ Q H1) ∨ (∃ xs, SqT K H1 a xs ∧ Lc (Itt K a) g tt te vs σ Q H1))
theorem w_lcS (h : tl σ H fun x H1 => LcS K g tt te vs σ Q x H1) : tLc (iSeq K tl) g tt te vs σ H Q := h
def LcR1 (g : TG) (tt : TT) (te : TE) (vs : List Nat) (σ : L2.St) (Q : VK) (xs : List V) (H1 : Hp) : Prop := ∃ j : Int, xs = [.int j] ∧ -(2 ^ 62) ≤ j ∧ j < 2 ^ 62 ∧ Lc (Itr 0 j.toNat) g tt te vs σ Q H1
theorem w_lcR1 (h : ta σ H fun x H1 => LcR1 g tt te vs σ Q x H1) : tLc (iRng1 ta) g tt te vs σ H Q := h
def LcR2 (g : TG) (tt : TT) (te : TE) (vs : List Nat) (σ : L2.St) (Q : VK) (xs : List V) (H1 : Hp) : Prop := ∃ i j : Int, xs = [.int i, .int j] ∧ (-(2 ^ 62) ≤ i ∧ i < 2 ^ 62 ∧ -(2 ^ 62) ≤ j ∧ j < 2 ^ 62) ∧ Lc (Itr i (j - i).toNat) g tt te vs σ Q H1
theorem w_lcR2 (h : ta σ H fun x H1 => LcR2 g tt te vs σ Q x H1) : tLc (iRng2 ta) g tt te vs σ H Q := h
def LcE (K : PySem.W.Frag) (g : TG) (tt : TT) (te : TE) (vs : List Nat) (σ : L2.St) (Q : VK) (xs : List V) (H1 : Hp) : Prop := ∃ a ys, xs = [.ref a] ∧ SqL K H1 a ys ∧ Lc (Ite K a) g tt te vs σ Q H1
theorem w_lcE (h : ta σ H fun x H1 => LcE K g tt te vs σ Q x H1) : tLc (iEnum K ta) g tt te vs σ H Q := h
theorem lc_S {a : Addr} {xs : List V} (hs : Sq K H1 a xs) (f : V → Bool) (v : V → V) (hz : xs.length ≤ 100000) (hw : ∀ x, wipe ((wipe σ vs).set j (some x)) vs = wipe σ vs)
    (hst : ∀ x ∈ xs, ∀ H2, Gr T H1 H2 → Turn1 T tt te ((wipe σ vs).set j (some x)) H2 (f x) (v x))
    (fin : ∀ D H3, Gr T H1 H3 → H1 D = none → H3 D = some (.lst ((xs.filter f).map v)) → Q (.ref D) H3) : LcS K (gName j) tt te vs σ Q (.ref a) H1 := by
  have go : ∀ {J : It}, Yl T J H1 xs.length (fun i x _ => xs[i]? = some x) → Lc J (gName j) tt te vs σ Q H1 := fun {J} Y => lcG (J := J) Y hz (fun i => (xs[i]?).elim false f) (fun i => (xs[i]?).elim .non v)
    (fun i x H2 R hi gr e k => k _ (hw x) (by
      have q := hst x (List.mem_of_getElem? e) H2 gr
      rw [e]
      exact q)) (fun D H3 g3 hD h3 => fin D H3 g3 hD (by rw [h3, given_list (p := f) (w := v) (fun i x e => by rw [e] <;> rfl) (fun i x e => by rw [e] <;> rfl)]))
  rcases hs with hs | hs
  · exact ⟨a, rfl, .inl ⟨xs, hs, go (yl_list hs)⟩⟩
  · exact ⟨a, rfl, .inr ⟨xs, hs, go (yl_tup hs)⟩⟩
/-- over ints -/
theorem lc_I {a : Addr} {ns : List Int} (hs : Sq K H1 a (ns.map V.int)) (f : Int → Bool) (v : Int → V) (hz : ns.length ≤ 100000) (hw : ∀ x, wipe ((wipe σ vs).set j (some x)) vs = wipe σ vs)
    (hst : ∀ n ∈ ns, ∀ H2, Gr T H1 H2 → Turn1 T tt te ((wipe σ vs).set j (some (.int n))) H2 (f n) (v n))
    (fin : ∀ D H3, Gr T H1 H3 → H1 D = none → H3 D = some (.lst ((ns.filter f).map v)) → Q (.ref D) H3) : LcS K (gName j) tt te vs σ Q (.ref a) H1 := by
  refine lc_S hs (fun x => match x with | .int n => f n | _ => false) (fun x => match x with | .int n => v n | _ => .non) (by rw [List.length_map]; exact hz) hw (fun x hx H2 gr => ?_) (fun D H3 g hD h3 => fin D H3 g hD ?_)
  · obtain ⟨n, hn, rfl⟩ := List.mem_map.mp hx
    exact hst n hn H2 gr
  · rw [h3, List.filter_map, List.map_map] <;> rfl
/-- the ints of a range -/
def rgI (lo hi : Int) : List Int := (List.range (hi - lo).toNat).map fun k : Nat => lo + k
theorem mem_rgI {lo hi k : Int} : k ∈ rgI lo hi ↔ lo ≤ k ∧ k < hi := by
  unfold rgI
  rw [List.mem_map]
  refine ⟨fun ⟨n, h1, h2⟩ => ?_, fun ⟨h1, h2⟩ => ⟨(k - lo).toNat, List.mem_range.mpr (by omega), by omega⟩⟩
  have := List.mem_range.mp h1
  omega
theorem lcR {lo : Int} {n : Nat} (hz : n ≤ 100000) (hw : ∀ x, wipe ((wipe σ vs).set j (some x)) vs = wipe σ vs) (f : Int → Bool) (v : Int → V)
    (hst : ∀ i : Nat, i < n → ∀ H2, Gr T H1 H2 → Turn1 T tt te ((wipe σ vs).set j (some (.int (lo + i)))) H2 (f (lo + i)) (v (lo + i)))
    (fin : ∀ D H3, Gr T H1 H3 → H1 D = none → H3 D = some (.lst ((((List.range n).map fun k : Nat => lo + (k : Int)).filter f).map v)) → Q (.ref D) H3) : Lc (Itr lo n) (gName j) tt te vs σ Q H1 :=
  lcG (T := T) yl_rng hz (fun i => f (lo + i)) (fun i => v (lo + i))
    (fun i x H2 R hi gr e k => by rw [e]; exact k _ (hw _) (hst i hi H2 gr)) (fun D H3 g3 hD h3 => fin D H3 g3 hD (by
      rw [h3]
      unfold given
      rw [List.filter_map, List.map_map] <;> rfl))
theorem lc_R1 {n : Int} (f : Int → Bool) (v : Int → V) (hz : n ≤ 100000) (hl : -(2 ^ 62) ≤ n) (hw : ∀ x, wipe ((wipe σ vs).set j (some x)) vs = wipe σ vs)
    (hst : ∀ k : Int, 0 ≤ k → k < n → ∀ H2, Gr T H1 H2 → Turn1 T tt te ((wipe σ vs).set j (some (.int k))) H2 (f k) (v k))
    (fin : ∀ D H3, Gr T H1 H3 → H1 D = none → H3 D = some (.lst (((rgI 0 n).filter f).map v)) → Q (.ref D) H3) : LcR1 (gName j) tt te vs σ Q [.int n] H1 := by
  refine ⟨n, rfl, hl, by omega, lcR (by omega) hw f v (fun i hi H2 gr => ?_) (fun D H3 g3 hD h3 => fin D H3 g3 hD (by rw [h3]; unfold rgI; rw [Int.sub_zero]))⟩
  exact hst _ (by omega) (by omega) H2 gr
theorem lc_R2 {lo hi : Int} (f : Int → Bool) (v : Int → V) (hz : hi - lo ≤ 100000) (b1 : -(2 ^ 61) ≤ lo) (b2 : lo ≤ 2 ^ 61) (b3 : -(2 ^ 61) ≤ hi) (hw : ∀ x, wipe ((wipe σ vs).set j (some x)) vs = wipe σ vs)
    (hst : ∀ k : Int, lo ≤ k → k < hi → ∀ H2, Gr T H1 H2 → Turn1 T tt te ((wipe σ vs).set j (some (.int k))) H2 (f k) (v k))
    (fin : ∀ D H3, Gr T H1 H3 → H1 D = none → H3 D = some (.lst (((rgI lo hi).filter f).map v)) → Q (.ref D) H3) : LcR2 (gName j) tt te vs σ Q [.int lo, .int hi] H1 := by
  refine ⟨lo, hi, rfl, ⟨by omega, by omega, by omega, by omega⟩, lcR (by omega) hw f v (fun i hi H2 gr => ?_) (fun D H3 g3 hD h3 => fin D H3 g3 hD (by rw [h3] <;> rfl))⟩
  exact hst _ (by omega) (by omega) H2 gr
theorem given_opt {α : Type} {ns : List α} {f : α → Bool} {v : α → V} : given ns.length (fun i => (ns[i]?).elim false f) (fun i => (ns[i]?).elim .non v) = (ns.filter f).map v := by
  have key : ∀ n, n ≤ ns.length → given n (fun i => (ns[i]?).elim false f) (fun i => (ns[i]?).elim .non v) = ((ns.take n).filter f).map v := by
    intro n
    induction n with
    | zero => intro _; rfl
    | succ n ih =>
      intro hn
      have hx : ns[n]? = some ns[n] := List.getElem?_eq_getElem hn
      have e : ns.take (n + 1) = ns.take n ++ [ns[n]] := by rw [List.take_add_one, hx] <;> rfl
      rw [e, List.filter_append, List.map_append, ← ih (by omega)]
      cases hb : f ns[n] with
      | true =>
        rw [given_yes (by rw [hx]; exact hb), List.filter_cons, if_pos hb, hx] <;> rfl
      | false =>
        rw [given_no (by rw [hx]; exact hb), List.filter_cons, if_neg (by rw [hb]; decide)]
        simp
  have := key ns.length (Nat.le_refl _)
  rw [this, List.take_length]
/-- enumerate over ints: i, x -/
theorem lc_E {a : Addr} {ns : List Int} (hs : SqL K H1 a (ns.map V.int)) (f : Nat → Int → Bool) (v : Nat → Int → V) (hz : ns.length ≤ 100000) (hw : ∀ x y, wipe (((wipe σ vs).set j (some x)).set j2 (some y)) vs = wipe σ vs)
    (hst : ∀ (i : Nat) (n : Int), ns[i]? = some n → ∀ H2, Gr T H1 H2 → Turn1 T tt te (((wipe σ vs).set j (some (.int (i : Nat)))).set j2 (some (.int n))) H2 (f i n) (v i n))
    (fin : ∀ D H3, Gr T H1 H3 → H1 D = none → H3 D = some (.lst ((ns.zipIdx.filter fun p => f p.2 p.1).map fun p => v p.2 p.1)) → Q (.ref D) H3) :
    LcE K (gTup K 2 (gCons (gName j) (gCons (gName j2) gNil))) tt te vs σ Q [.ref a] H1 := by
  refine ⟨a, _, rfl, hs, lcG (T := T) (yl_enum hs) (by rw [List.length_map]; exact hz) (fun i => (ns.zipIdx[i]?).elim false fun p => f p.2 p.1) (fun i => (ns.zipIdx[i]?).elim .non fun p => v p.2 p.1) (fun i x H2 R hi gr e k => ?_) (fun D H3 g3 hD h3 => fin D H3 g3 hD ?_)⟩
  · obtain ⟨p, y, rfl, hp, hy⟩ := e
    rw [List.getElem?_map] at hy
    cases hn : ns[i]? with
    | none => rw [hn] at hy; cases hy
    | some n =>
      rw [hn] at hy
      cases hy
      refine ⟨p, _, rfl, .inl (.inl hp), rfl, _, _, rfl, _, _, rfl, rfl, k _ (hw _ _) ?_⟩
      have hx2 : ns.zipIdx[i]? = some (n, i) := by rw [List.getElem?_zipIdx, hn]; simp
      rw [hx2]
      exact hst i n hn H2 gr
  · rw [h3, List.length_map]
    have e : ns.length = ns.zipIdx.length := by simp
    rw [e, given_opt]
/-- pairs of ints -/
def IsPr (K : PySem.W.Frag) (H : Hp) (x : V) (q : Int × Int) : Prop := ∃ p, x = .ref p ∧ SqT K H p [.int q.1, .int q.2]
def PrAll (K : PySem.W.Frag) (H : Hp) : List V → List (Int × Int) → Prop := Paired (IsPr K H)
theorem Gr.pr {H H' : Hp} {x : V} {q : Int × Int} (g : Gr T H H') (h : IsPr K H x q) : IsPr K H' x q := by
  obtain ⟨p, e, hs⟩ := h
  exact ⟨p, e, g.sqT hs⟩
theorem Gr.prs {H H' : Hp} (g : Gr T H H') : ∀ {xs : List V} {qs : List (Int × Int)}, PrAll K H xs qs → PrAll K H' xs qs
  | _, _, .nil => .nil
  | _, _, .cons a b => .cons (g.pr a) (Gr.prs g b)
theorem PrAll.get {H : Hp} : ∀ {xs : List V} {qs : List (Int × Int)} {i : Nat} {x : V}, PrAll K H xs qs → xs[i]? = some x → ∃ q, qs[i]? = some q ∧ IsPr K H x q
  | _, _, _, _, .nil, e => by simp at e
  | _, _, 0, _, .cons r _, e => by
    simp at e
    subst e
    exact ⟨_, rfl, r⟩
  | _, _, i + 1, x, .cons _ t, e => by
    obtain ⟨q, h1, h2⟩ := PrAll.get (i := i) (x := x) t (by simpa using e)
    exact ⟨q, by simpa using h1, h2⟩
theorem PrAll.len {H : Hp} {xs : List V} {qs : List (Int × Int)} (h : PrAll K H xs qs) : xs.length = qs.length := Paired.length h
theorem lc_P {a : Addr} {xs : List V} {qs : List (Int × Int)} (hs : SqL K H1 a xs) (hp : PrAll K H1 xs qs) (f : Int × Int → Bool) (v : Int × Int → V) (hz : qs.length ≤ 100000) (hw : ∀ x y, wipe (((wipe σ vs).set j (some x)).set j2 (some y)) vs = wipe σ vs)
    (hst : ∀ q ∈ qs, ∀ H2, Gr T H1 H2 → Turn1 T tt te (((wipe σ vs).set j (some (.int q.1))).set j2 (some (.int q.2))) H2 (f q) (v q))
    (fin : ∀ D H3, Gr T H1 H3 → H1 D = none → H3 D = some (.lst ((qs.filter f).map v)) → Q (.ref D) H3) :
    LcS K (gTup K 2 (gCons (gName j) (gCons (gName j2) gNil))) tt te vs σ Q (.ref a) H1 := by
  refine ⟨a, rfl, .inl ⟨xs, hs, lcG (T := T) (yl_list hs) (by rw [hp.len]; exact hz) (fun i => (qs[i]?).elim false f) (fun i => (qs[i]?).elim .non v) (fun i x H2 R hi gr e k => ?_) (fun D H3 g3 hD h3 => fin D H3 g3 hD (by rw [h3, hp.len, given_opt]))⟩⟩
  obtain ⟨q, hq, hp2⟩ := hp.get e
  obtain ⟨p, rfl, hp3⟩ := gr.pr hp2
  refine ⟨p, _, rfl, hp3, rfl, _, _, rfl, _, _, rfl, rfl, k _ (hw _ _) ?_⟩
  rw [hq]
  exact hst q (List.mem_of_getElem? hq) H2 gr
end
/-! ### for statements -/
section
variable {K : PySem.W.Frag} {T : List (Addr × Str)} {σ : L2.St} {H H1 : Hp} {D : Ends} {tl : TE} {ta : TA} {g : TG} {tb : TS}
/-- what a for statement asks of its iterator -/
def Fr (J : It) (g : TG) (tb : TS) (D : Ends) (σ : L2.St) (H1 : Hp) : Prop := ∃ W : Nat → Nat → L2.St → Hp → Prop, (∃ m, W 0 m σ H1) ∧ ∀ i m σ H, W i m σ H →
      (J.stop i H ∧ D.nx σ H) ∨ (J.go i H ∧ ∃ N : L2.St → Hp → Prop, (∀ σ' H', N σ' H' → ∃ m', m' < m ∧ W (i + 1) m' σ' H') ∧ ∀ x H', J.yld i H x H' → g x σ H' fun σ2 H2 => tb { D with nx := N, ct := N, bk := D.nx } σ2 H2)
def FrS (K : PySem.W.Frag) (g : TG) (tb : TS) (D : Ends) (σ : L2.St) (x : V) (H1 : Hp) : Prop := ∃ a, x = .ref a ∧ ((∃ xs, SqL K H1 a xs ∧ Fr (Itl K a) g tb D σ H1) ∨ (∃ xs, SqT K H1 a xs ∧ Fr (Itt K a) g tb D σ H1))
theorem w_frS (h : tl σ H fun x H1 => FrS K g tb D σ x H1) : tFor (iSeq K tl) g tb D σ H := h
def FrR1 (g : TG) (tb : TS) (D : Ends) (σ : L2.St) (xs : List V) (H1 : Hp) : Prop := ∃ j : Int, xs = [.int j] ∧ -(2 ^ 62) ≤ j ∧ j < 2 ^ 62 ∧ Fr (Itr 0 j.toNat) g tb D σ H1
theorem w_frR1 (h : ta σ H fun x H1 => FrR1 g tb D σ x H1) : tFor (iRng1 ta) g tb D σ H := h
def FrR2 (g : TG) (tb : TS) (D : Ends) (σ : L2.St) (xs : List V) (H1 : Hp) : Prop := ∃ i j : Int, xs = [.int i, .int j] ∧ (-(2 ^ 62) ≤ i ∧ i < 2 ^ 62 ∧ -(2 ^ 62) ≤ j ∧ j < 2 ^ 62) ∧ Fr (Itr i (j - i).toNat) g tb D σ H1
theorem w_frR2 (h : ta σ H fun x H1 => FrR2 g tb D σ x H1) : tFor (iRng2 ta) g tb D σ H := h
def FrE (K : PySem.W.Frag) (g : TG) (tb : TS) (D : Ends) (σ : L2.St) (xs : List V) (H1 : Hp) : Prop := ∃ a ys, xs = [.ref a] ∧ SqL K H1 a ys ∧ Fr (Ite K a) g tb D σ H1
theorem w_frE (h : ta σ H fun x H1 => FrE K g tb D σ x H1) : tFor (iEnum K ta) g tb D σ H := h
def FrT (g : TG) (tb : TS) (D : Ends) (σ : L2.St) (x : V) (H1 : Hp) : Prop := ∃ z, x = .str z ∧ Fr (Its z) g tb D σ H1
theorem w_frT (h : tl σ H fun x H1 => FrT g tb D σ x H1) : tFor (iStr tl) g tb D σ H := h
theorem frG {J : It} {n : Nat} {yl : Nat → V → Hp → Prop} (Pv : Nat → L2.St → Hp → Prop) (h0 : Pv 0 σ H1) (hY : ∀ i σ' H', i ≤ n → Pv i σ' H' → (i < n → J.go i H' ∧ ∀ x H'', J.yld i H' x H'' → g x σ' H'' fun σ2 H2 => tb { D with nx := Pv (i + 1), ct := Pv (i + 1), bk := D.nx } σ2 H2) ∧ (i = n → J.stop i H' ∧ D.nx σ' H')) : Fr J g tb D σ H1 := by
  refine ⟨fun i m σ H => m = n - i ∧ i ≤ n ∧ Pv i σ H, ⟨n, by simp, Nat.zero_le _, h0⟩, fun i m σ H w => ?_⟩
  obtain ⟨em, hi, p⟩ := w
  obtain ⟨h1, h2⟩ := hY i σ H hi p
  rcases Nat.lt_or_ge i n with hlt | hge
  · exact .inr ⟨(h1 hlt).1, fun σ' H' => Pv (i + 1) σ' H', fun σ' H' q => ⟨n - (i + 1), by omega, rfl, by omega, q⟩, (h1 hlt).2⟩
  · have e : i = n := by omega
    obtain ⟨h3, h4⟩ := h2 e
    exact .inl ⟨h3, h4⟩
/-- over a list or a tuple whose place stands through all turns -/
theorem fr_S {a : Addr} {xs : List V} (hs : Sq K H1 a xs) (Pv : Nat → L2.St → Hp → Prop) (h0 : Pv 0 σ H1) (hk : ∀ i σ' H', Pv i σ' H' → Gr T H1 H')
    (hst : ∀ i x σ' H', xs[i]? = some x → Pv i σ' H' → g x σ' H' fun σ2 H2 => tb { D with nx := Pv (i + 1), ct := Pv (i + 1), bk := D.nx } σ2 H2) (hd : ∀ σ' H', Pv xs.length σ' H' → D.nx σ' H') : FrS K g tb D σ (.ref a) H1 := by
  have go : ∀ {J : It}, Yl T J H1 xs.length (fun i x _ => xs[i]? = some x) → (∀ i H x H', J.yld i H x H' → H' = H) → Fr J g tb D σ H1 := fun {J} Y hH => frG (n := xs.length) (yl := fun _ _ _ => True) Pv h0 fun i σ' H' hi p => by
    obtain ⟨y1, y2, y3⟩ := Y H' (hk i σ' H' p)
    refine ⟨fun hlt => ⟨y1 i hlt, fun x H'' y => ?_⟩, fun e => ⟨y2 i (by omega), hd σ' H' (by rw [← e]; exact p)⟩⟩
    have e := hH i H' x H'' y
    subst e
    exact hst i x σ' H'' (y3 i x H'' hlt y).2 p
  rcases hs with hs | hs
  · exact ⟨a, rfl, .inl ⟨xs, hs, go (yl_list hs) fun i H x H' y => y.1⟩⟩
  · exact ⟨a, rfl, .inr ⟨xs, hs, go (yl_tup hs) fun i H x H' y => y.1⟩⟩
theorem frR {lo : Int} {n : Nat} (Pv : Nat → L2.St → Hp → Prop) (h0 : Pv 0 σ H1) (hst : ∀ (i : Nat) σ' H', i < n → Pv i σ' H' → g (.int (lo + i)) σ' H' fun σ2 H2 => tb { D with nx := Pv (i + 1), ct := Pv (i + 1), bk := D.nx } σ2 H2) (hd : ∀ σ' H', Pv n σ' H' → D.nx σ' H') : Fr (Itr lo n) g tb D σ H1 :=
  frG (n := n) (yl := fun _ _ _ => True) Pv h0 fun i σ' H' hi p => ⟨fun hlt => ⟨hlt, fun x H'' y => by
    obtain ⟨e1, e2⟩ := y
    subst e1 e2
    exact hst i σ' _ hlt p⟩, fun e => ⟨by subst e; exact Nat.le_refl _, hd σ' H' (by subst e; exact p)⟩⟩
theorem fr_R1 {n : Int} (hz : n ≤ 2 ^ 61) (hl : -(2 ^ 62) ≤ n) (Pv : Nat → L2.St → Hp → Prop) (h0 : Pv 0 σ H1) (hst : ∀ (i : Nat) σ' H', (i : Int) < n → Pv i σ' H' → g (.int (i : Nat)) σ' H' fun σ2 H2 => tb { D with nx := Pv (i + 1), ct := Pv (i + 1), bk := D.nx } σ2 H2)
    (hd : ∀ σ' H', Pv n.toNat σ' H' → D.nx σ' H') : FrR1 g tb D σ [.int n] H1 :=
  ⟨n, rfl, hl, by omega, frR Pv h0 (fun i σ' H' hi p => by rw [Int.zero_add]; exact hst i σ' H' (by omega) p) hd⟩
theorem fr_R2 {lo hi : Int} (b1 : -(2 ^ 61) ≤ lo) (b2 : lo ≤ 2 ^ 61) (b3 : -(2 ^ 61) ≤ hi) (b4 : hi ≤ 2 ^ 61) (Pv : Nat → L2.St → Hp → Prop) (h0 : Pv 0 σ H1) (hst : ∀ (i : Nat) σ' H', lo + (i : Int) < hi → Pv i σ' H' → g (.int (lo + (i : Nat))) σ' H' fun σ2 H2 => tb { D with nx := Pv (i + 1), ct := Pv (i + 1), bk := D.nx } σ2 H2)
    (hd : ∀ σ' H', Pv (hi - lo).toNat σ' H' → D.nx σ' H') : FrR2 g tb D σ [.int lo, .int hi] H1 :=
  ⟨lo, hi, rfl, ⟨by omega, by omega, by omega, by omega⟩, frR Pv h0 (fun i σ' H' hi p => hst i σ' H' (by omega) p) hd⟩
/-- enumerate: i, x -/
theorem fr_E {a : Addr} {xs : List V} {j j2 : Nat} (hs : SqL K H1 a xs) (Pv : Nat → L2.St → Hp → Prop) (h0 : Pv 0 σ H1) (hk : ∀ i σ' H', Pv i σ' H' → Gr T H1 H')
    (hst : ∀ (i : Nat) x σ' H' H2, xs[i]? = some x → Pv i σ' H' → Gr T H' H2 → tb { D with nx := Pv (i + 1), ct := Pv (i + 1), bk := D.nx } ((σ'.set j (some (.int (i : Nat)))).set j2 (some x)) H2) (hd : ∀ σ' H', Pv xs.length σ' H' → D.nx σ' H') :
    FrE K (gTup K 2 (gCons (gName j) (gCons (gName j2) gNil))) tb D σ [.ref a] H1 := by
  refine ⟨a, xs, rfl, hs, frG (n := xs.length) (yl := fun _ _ _ => True) Pv h0 fun i σ' H' hi p => ?_⟩
  obtain ⟨y1, y2, y3⟩ := yl_enum (T := T) hs H' (hk i σ' H' p)
  refine ⟨fun hlt => ⟨y1 i hlt, fun x H'' y => ?_⟩, fun e => ⟨y2 i (by omega), hd σ' H' (by rw [← e]; exact p)⟩⟩
  obtain ⟨gr, q, z, rfl, h1, h2⟩ := y3 i x H'' hlt y
  exact ⟨q, _, rfl, .inl (.inl h1), rfl, _, _, rfl, _, _, rfl, rfl, hst i z σ' H' H'' h2 p gr⟩
end
end U
end
section
set_option Elab.async false
set_option linter.all false
set_option maxRecDepth 100000
set_option maxHeartbeats 4000000
/-! readings, step by step -/
namespace U
open PySem PySem.Spec PyProof.Rows L2 LamX Evl
/-- kept, whatever the tables -/
def GrA (H H' : Hp) : Prop := ∀ T, Gr T H H'
theorem GrA.gr {T : List (Addr × Str)} {H H' : Hp} (g : GrA H H') : Gr T H H' := g T
theorem GrA.new {H : Hp} {p : Addr} {o : HO} (h : H p = none) : GrA H (upd H p o) := fun _ => Gr.new h
theorem sqL_of {K : PySem.W.Frag} {H : Hp} {a : Addr} {xs : List V} (h : H a = some (.lst xs)) : SqL K H a xs := .inl (.inl h)
theorem sqT_of {K : PySem.W.Frag} {H : Hp} {a : Addr} {xs : List V} (h : H a = some (.tup xs)) : SqT K H a xs := .inl (.inl h)
theorem sqA_of {K : PySem.W.Frag} {H : Hp} {a : Addr} {xs : List V} (h : H a = some (.lst xs)) : Sq K H a xs := .inl (sqL_of h)
theorem sqB_of {K : PySem.W.Frag} {H : Hp} {a : Addr} {xs : List V} (h : H a = some (.tup xs)) : Sq K H a xs := .inr (sqT_of h)
section
variable {K : PySem.W.Frag} {D : Ends} {σ : L2.St} {H H' : Hp} {Q : VK} {QS : L2.St → Hp → Prop} {QH : Hp → Prop} {p q : Addr} {xs ys : List V} {ns ms : List Int} {i j k n : Int} {v x : V} {s r : Str} {tA : TA}
theorem w_len (h : Sq K H p xs) (q : Q (.int xs.length) H) : uLen K [.ref p] H Q := ⟨xs, h, q⟩
theorem w_lenI (h : Sq K H p (ns.map V.int)) (q : Q (.int ns.length) H) : uLen K [.ref p] H Q := ⟨_, h, by rw [List.length_map]; exact q⟩
theorem w_lenS (h : s.length ≤ sizeLine) (q : Q (.int s.length) H) : uLen K [.str s] H Q := ⟨h, q⟩
theorem w_sum (h : Sq K H p (ns.map V.int)) (q : Q (.int ns.sum) H) : uSum K [.ref p] H Q := ⟨p, ns, rfl, h, q⟩
theorem w_abs (q : Q (.int (i.natAbs : Int)) H) : uAbs [.int i] H Q := q
theorem w_max2 (q : Q (.int (max i j)) H) : uMax [.int i, .int j] H Q := q
theorem w_max3 (q : Q (.int (max (max i j) k)) H) : uMax [.int i, .int j, .int k] H Q := q
theorem w_min2 (q : Q (.int (min i j)) H) : uMin [.int i, .int j] H Q := q
theorem w_intI (q : Q (.int i) H) : uInt [.int i] H Q := q
theorem w_strI (h : i.natAbs.log2 < 1920) (q : Q (.str (toString i)) H) : uStr [.int i] H Q := ⟨h, q⟩
theorem w_list (h : Sq K H p xs) (q : ∀ l H', H l = none → GrA H H' → H' l = some (.lst xs) → Q (.ref l) H') : uList K [.ref p] H Q := ⟨xs, h, fun l hl => q l _ hl (.new hl) upd_same⟩
theorem w_tuple (h : Sq K H p xs) (q : ∀ l H', GrA H H' → SqT K H' l xs → Q (.ref l) H') : uTup K [.ref p] H Q := by
  rcases h with h | h
  · exact ⟨xs, .inl ⟨h, fun l hl => q l _ (.new hl) (sqT_of upd_same)⟩⟩
  · exact ⟨xs, .inr ⟨h, q p H (fun _ => Gr.refl _ _) h⟩⟩
theorem w_tupG (h : tA σ H fun xs H1 => xs.length ≤ sizeLine ∧ ∀ p H', H1 p = none → GrA H1 H' → H' p = some (.tup xs) → Q (.ref p) H') : tTup tA σ H Q → tTup tA σ H Q := id
theorem tup_k {xs : List V} (h : xs.length ≤ 100000) (q : ∀ p H', H p = none → GrA H H' → H' p = some (.tup xs) → Q (.ref p) H') : xs.length ≤ sizeLine ∧ ∀ p, H p = none → Q (.ref p) (upd H p (.tup xs)) := ⟨sz_of h, fun p hp => q p _ hp (.new hp) upd_same⟩
theorem lst_k {xs : List V} (h : xs.length ≤ 100000) (q : ∀ p H', H p = none → GrA H H' → H' p = some (.lst xs) → Q (.ref p) H') : xs.length ≤ sizeLine ∧ ∀ p, H p = none → Q (.ref p) (upd H p (.lst xs)) := ⟨sz_of h, fun p hp => q p _ hp (.new hp) upd_same⟩
theorem new_k {o : HO} (q : ∀ p H', H p = none → GrA H H' → H' p = some o → Q (.ref p) H') : ∀ p, H p = none → Q (.ref p) (upd H p o) := fun p hp => q p _ hp (.new hp) upd_same
/-! items -/
theorem ixN_of {m : Nat} (h0 : 0 ≤ k) (h1 : k < m) : ixN m k = some k.toNat := by
  unfold ixN
  rw [if_pos h0, if_pos h1]
theorem w_ix {k : Int} (h : Sq K H p xs) (h0 : 0 ≤ k) (h1 : xs[k.toNat]? = some v) (q : Q v H) : uIx K (.ref p) (.int k) H Q := by
  have hl := (List.getElem?_eq_some_iff.mp h1).1
  refine ⟨xs, v, h, ?_, q⟩
  unfold atI
  rw [ixN_of h0 (by omega)]
  exact h1
theorem w_ixZ {k : Int} (h : Sq K H p (ns.map V.int)) (h0 : 0 ≤ k) (h1 : k < ns.length) (q : Q (.int (ns.getD k.toNat 0)) H) : uIx K (.ref p) (.int k) H Q := by
  have hl : k.toNat < ns.length := by omega
  refine w_ix h h0 (v := .int (ns.getD k.toNat 0)) ?_ q
  rw [List.getElem?_map, List.getElem?_eq_getElem hl, List.getD_eq_getElem?_getD, List.getElem?_eq_getElem hl] <;> rfl
theorem w_set (h : H p = some (.lst xs)) (h0 : 0 ≤ k) (h1 : k < xs.length) (q : QH (upd H p (.lst (xs.set k.toNat v)))) : rSetL (.ref p) (.int k) v H QH := ⟨p, xs, k, k.toNat, rfl, rfl, h, ixN_of h0 h1, q⟩
theorem w_app (h : H p = some (.lst xs)) (hz : xs.length < 100000) (q : Q .non (upd H p (.lst (xs ++ [v])))) : tyV K "list" (.ref p) H ∧ rAppend (.ref p) [v] H Q := ⟨.inl ⟨rfl, xs, sqL_of h⟩, p, xs, v, rfl, rfl, h, sz_lt hz, q⟩
theorem ty_lst (h : H p = some (.lst xs)) {A : Prop} (a : A) : tyV K "list" (.ref p) H ∧ A := ⟨.inl ⟨rfl, xs, sqL_of h⟩, a⟩
theorem w_append (h : H p = some (.lst xs)) (hz : xs.length < 100000) (q : Q .non (upd H p (.lst (xs ++ [v])))) : rAppend (.ref p) [v] H Q := ⟨p, xs, v, rfl, rfl, h, sz_lt hz, q⟩
/-! slices -/
def cutI {α : Type} (xs : List α) (lo hi : Option Int) : List α := (xs.drop (HT.sIx xs.length 0 lo)).take (HT.sIx xs.length xs.length hi - HT.sIx xs.length 0 lo)
theorem cutV_map {α : Type} (f : α → V) (ns : List α) (lo hi : Option Int) : cutV (ns.map f) lo hi = (cutI ns lo hi).map f := by
  unfold cutV cutI
  rw [List.length_map, List.map_take, List.map_drop]
theorem cutI_take {α : Type} (xs : List α) (m : Nat) : cutI xs none (some (m : Int)) = xs.take m := by
  unfold cutI
  rw [HT.sIx_none, HT.sIx_nat]
  show List.take (min m xs.length - 0) (List.drop 0 xs) = _
  rw [Nat.sub_zero, List.drop_zero]
  rcases Nat.le_total m xs.length with h | h
  · rw [Nat.min_eq_left h]
  · rw [Nat.min_eq_right h, List.take_length, List.take_of_length_le h]
theorem cutV_whole {lo hi : Option Int} (h : HT.sIx xs.length 0 lo = 0 ∧ HT.sIx xs.length xs.length hi = xs.length) : cutV xs lo hi = xs := by
  unfold cutV
  rw [h.1, h.2, Nat.sub_zero, List.drop_zero, List.take_length]
theorem w_slS {lo hi : Option Int} (h : Sq K H p xs) (q : ∀ l H', GrA H H' → Sq K H' l (cutV xs lo hi) → Q (.ref l) H') : rSl K (.ref p) lo hi H Q := by
  rcases h with h | h
  · exact .inl ⟨p, xs, rfl, h, fun l hl => q l _ (.new hl) (sqA_of upd_same)⟩
  · exact .inr ⟨p, xs, rfl, h, fun e => q p H (fun _ => Gr.refl _ _) (.inr (by rw [cutV_whole e]; exact h)), fun _ l hl => q l _ (.new hl) (sqB_of upd_same)⟩
theorem w_slI {lo hi : Option Int} (h : Sq K H p (ns.map V.int)) (q : ∀ l H', GrA H H' → Sq K H' l ((cutI ns lo hi).map V.int) → Q (.ref l) H') : rSl K (.ref p) lo hi H Q :=
  w_slS h fun l H' g h' => q l H' g (by rw [← cutV_map]; exact h')
/-! in -/
theorem eqV_int : L2.eqV (.int i) (.int j) = decide (i = j) := by
  first
    | rfl
    | (unfold L2.eqV; simp)
theorem inV_ints : ∀ ns : List Int, inV (.int n) (ns.map V.int) = decide (n ∈ ns)
  | [] => rfl
  | m :: r => by
    have ih := inV_ints r
    unfold inV at ih ⊢
    rw [List.map_cons, List.any_cons, ih, eqV_int]
    by_cases h : m = n
    · subst h; simp
    · have h2 : ¬ n = m := fun e => h e.symm
      simp [h, h2]
theorem flat_ints : ∀ ns : List Int, (ns.map V.int).all flatV = true
  | [] => rfl
  | m :: r => by
    rw [List.map_cons, List.all_cons, flat_ints r] <;> rfl
theorem w_inI (h : Sq K H p (ns.map V.int)) (q : Q (.bl (decide (n ∈ ns))) H) : uIn K false (.int n) (.ref p) H Q := ⟨p, _, rfl, h, rfl, flat_ints ns, by rw [inV_ints]; exact q⟩
theorem w_notInI (h : Sq K H p (ns.map V.int)) (q : Q (.bl (!decide (n ∈ ns))) H) : uIn K true (.int n) (.ref p) H Q := ⟨p, _, rfl, h, rfl, flat_ints ns, by rw [inV_ints]; exact q⟩
theorem w_inC {c : Nat} {z : Str} (q : Q (.bl (decide (c ∈ z.cps.toList))) H) : uIn K false (.str ⟨#[c]⟩) (.str z) H Q := .inl ⟨c, z, rfl, rfl, q⟩
theorem w_notInC {c : Nat} {z : Str} (q : Q (.bl (!decide (c ∈ z.cps.toList))) H) : uIn K true (.str ⟨#[c]⟩) (.str z) H Q := .inl ⟨c, z, rfl, rfl, q⟩
/-! sequences of ints: ==, +, * -/
theorem dp_ints : ∀ ns : List Int, DpAll K H (ns.map V.int) (ns.map PyData.int)
  | [] => .nil
  | n :: r => .cons (.int n) (dp_ints r)
theorem lay_ints : ∀ ns : List Int, PyData.canLayAll0 (ns.map PyData.int) = true
  | [] => rfl
  | n :: r => by
    show (_ && PyData.canLayAll0 (r.map PyData.int)) = true
    rw [lay_ints r] <;> rfl
theorem shaped_L (ns : List Int) : SeqAt.shaped (.list (ns.map PyData.int)) = true := by
  unfold SeqAt.shaped
  have h1 : (PyData.list (ns.map PyData.int)).canLay0 = true := lay_ints ns
  have h2 : (PyData.list (ns.map PyData.int)).depth ≤ 64 := by
    have h := depth_ints ns
    have e : (PyData.list (ns.map PyData.int)).depth = PyData.depthAll (ns.map PyData.int) + 1 := by first | rfl | exact Nat.add_comm _ _
    omega
  rw [h1, decide_eq_true h2] <;> rfl
theorem shaped_T (ns : List Int) : SeqAt.shaped (.tuple (ns.map PyData.int)) = true := by
  unfold SeqAt.shaped
  have h1 : (PyData.tuple (ns.map PyData.int)).canLay0 = true := lay_ints ns
  have h2 : (PyData.tuple (ns.map PyData.int)).depth ≤ 64 := by
    have h := depth_ints ns
    have e : (PyData.tuple (ns.map PyData.int)).depth = PyData.depthAll (ns.map PyData.int) + 1 := by first | rfl | exact Nat.add_comm _ _
    omega
  rw [h1, decide_eq_true h2] <;> rfl
theorem w_neL (h1 : SqL K H p (ns.map V.int)) (h2 : SqL K H q (ms.map V.int)) (k : Q (.bl (!decide (ns = ms))) H) : uNe K (.ref p) (.ref q) H Q :=
  ⟨.list (ns.map PyData.int), .list (ms.map PyData.int), .lst h1 (dp_ints ns), .lst h2 (dp_ints ms), shaped_L ns, shaped_L ms, by
    have e : PyData.eqv (.list (ns.map PyData.int)) (.list (ms.map PyData.int)) = decide (ns = ms) := by
      show PyData.eqvAll _ _ = _
      exact PySem.W.ked_eqvAll ns ms
    rw [e]
    exact k⟩
theorem w_cat (h1 : H p = some (.lst xs)) (h2 : H q = some (.lst ys)) (hz : xs.length + ys.length ≤ 100000) (k : ∀ l H', H l = none → GrA H H' → H' l = some (.lst (xs ++ ys)) → Q (.ref l) H') : uAdd K (.ref p) (.ref q) H Q :=
  .inl ⟨p, q, xs, ys, rfl, rfl, h1, h2, sz_of hz, new_k k⟩
theorem w_rep (h1 : H p = some (.lst [v])) (h0 : n ≤ 100000) (hl : -(2 ^ 63) ≤ n) (k : ∀ l H', H l = none → GrA H H' → H' l = some (.lst (List.replicate n.toNat v)) → Q (.ref l) H') : uMul (.ref p) (.int n) H Q := by
  refine ⟨p, n, [v], rfl, rfl, h1, hl, by omega, sz_of (by show 1 * n.toNat ≤ 100000; omega), fun l hl2 => ?_⟩
  have e : (List.replicate n.toNat [v]).flatten = List.replicate n.toNat v := by
    induction n.toNat with
    | zero => rfl
    | succ m ih => rw [List.replicate_succ, List.flatten_cons, ih, List.replicate_succ] <;> rfl
  rw [e]
  exact k l _ hl2 (.new hl2) upd_same
/-! isinstance -/
theorem tyx_int : TyX K H (.int i) (.type "int") := .base (.int i)
theorem tyx_bl {b : Bool} : TyX K H (.bl b) (.type "bool") := .base (.bl b)
theorem tyx_str : TyX K H (.str s) (.type "str") := .base (.str s)
theorem tyx_non : TyX K H .non (.type "NoneType") := .base .non
theorem tyx_L (h : SqL K H p xs) : TyX K H (.ref p) (.type "list") := by
  rcases h with (h | ⟨o, h⟩) | ⟨o, its, n, h, hc, _⟩
  · exact .base (.lst h)
  · exact .base (.frz h)
  · exact .kList h hc
theorem tyx_T (h : SqT K H p xs) : TyX K H (.ref p) (.type "tuple") := by
  rcases h with (h | ⟨o, h⟩) | ⟨o, its, n, h, hc, _⟩
  · exact .base (.tup h)
  · exact .fTuple h
  · exact .kTuple h hc
theorem w_isi {t n : String} {b : Bool} (ty : TyX K H x (.type t)) (h : kitB t n = some b) (q : Q (.bl b) H) : rIsi K [x, .ty n] H Q := ⟨x, .ty n, .type t, .type n, b, rfl, .ty n, ty, kit_ty h, q⟩
theorem w_isiT {t n m : String} {b c : Bool} (ht : H p = some (.tup [.ty n, .ty m])) (ty : TyX K H x (.type t)) (h : kitB t n = some b) (h2 : kitB t m = some c) (q : Q (.bl (b || c)) H) : rIsiT K [x, .ref p] H Q := by
  refine ⟨x, p, _, .type t, [.type n, .type m], b || c, rfl, ht, .cons (.ty n) (.cons (.ty m) .nil), ty, ?_, q⟩
  refine kitAny_cons (kit_ty h) (fun e => ?_) (fun e => by rw [e] <;> rfl)
  rw [e]
  exact kitAny_cons (kit_ty h2) (fun e => by rw [e]; exact kitAny_nil) (fun e => by rw [e] <;> rfl)
/-! None -/
theorem w_isNo (q : Q (.bl (decide (x = .non))) H) : rIsN x .non H Q := ⟨rfl, q⟩
theorem w_notN (q : Q (.bl (!decide (x = .non))) H) : rNotN x .non H Q := ⟨rfl, q⟩
/-! truth -/
theorem w_trL {QT : Bool → Hp → Prop} (h : SqL K H p xs) (q : QT (!xs.isEmpty) H) : ∃ k', TruV K (.ref p) H k' ∧ QT k' H := ⟨_, .inl ⟨xs, h, rfl⟩, q⟩
end
end U
end
section
set_option Elab.async false
set_option linter.all false
set_option maxRecDepth 100000
set_option maxHeartbeats 4000000
namespace U
open PySem PySem.Spec PyProof.Rows L2 LamX Evl
section
variable {K : PySem.W.Frag} {T : List (Addr × Str)} {σ : L2.St} {H H1 : Hp} {D : Ends} {g : TG} {tb : TS}
def LstK (Q : VK) (xs : List V) (H1 : Hp) : Prop := xs.length ≤ sizeLine ∧ ∀ p, H1 p = none → Q (.ref p) (upd H1 p (.lst xs))
def TupK (Q : VK) (xs : List V) (H1 : Hp) : Prop := xs.length ≤ sizeLine ∧ ∀ p, H1 p = none → Q (.ref p) (upd H1 p (.tup xs))
theorem w_lstK {tA : TA} {Q : VK} (h : tA σ H fun xs H1 => LstK Q xs H1) : tLst tA σ H Q := h
theorem w_tupK {tA : TA} {Q : VK} (h : tA σ H fun xs H1 => TupK Q xs H1) : tTup tA σ H Q := h
theorem lstK {Q : VK} {xs : List V} (h : xs.length ≤ 100000) (q : ∀ p H', H p = none → GrA H H' → H' p = some (.lst xs) → Q (.ref p) H') : LstK Q xs H := lst_k h q
theorem tupK {Q : VK} {xs : List V} (h : xs.length ≤ 100000) (q : ∀ p H', H p = none → GrA H H' → H' p = some (.tup xs) → Q (.ref p) H') : TupK Q xs H := tup_k h q
theorem w_ckw {r : List V → List V → Hp → VK → Prop} {t tk : TA} {Q : VK} (h : t σ H fun vs H1 => tk σ H1 fun zs H2 => r vs zs H2 Q) : tCKw r t tk σ H Q := h
theorem w_callN {n m : Nat} {sp : Sp} {gV : List V → List V → List V} {E : XK} {t tk : TA} {Q : VK} (h : t σ H fun vs H1 => tk σ H1 fun zs H2 => vs.length = n ∧ zs.length = m ∧ sp (gV vs zs) H2 Q E) : tCallN n m sp gV E t tk σ H Q := h
theorem w_m1 {r : V → List V → Hp → VK → Prop} {to te : TE} {Q : VK} (h : to σ H fun x H1 => (∃ a, x = .str a) ∧ te σ H1 fun y H2 => r x [y] H2 Q) : tM1 r to te σ H Q := h
theorem w_yes1 {a : Str} {A : Prop} (h : A) : (∃ b, V.str a = .str b) ∧ A := ⟨⟨a, rfl⟩, h⟩
theorem w_iteNT {A B : Prop} (h : B) : if (!true) = true then A else B := by rw [if_neg (by decide)]; exact h
theorem w_iteNF {A B : Prop} (h : A) : if (!false) = true then A else B := by rw [if_pos (by decide)]; exact h
def RaK (C : Addr) (fs : List Str) (W : L2.WX) (σ : L2.St) (vs : List V) (H1 : Hp) : Prop := vs.length = fs.length ∧ ∀ d, H1 d = none → W (.ref C) (some d) σ (upd H1 d (.xd (fs.zip vs).reverse))
theorem w_raise {C : Addr} {fs : List Str} {W : L2.WX} {ta : TA} (h : ta σ H fun vs H1 => RaK C fs W σ vs H1) : tRaise C fs W ta D σ H := h
theorem raK1 {C : Addr} {f : Str} {W : L2.WX} {v : V} (h : ∀ d H', GrA H H' → H' d = some (.xd [(f, v)]) → W (.ref C) (some d) σ H') : RaK C [f] W σ [v] H := ⟨rfl, fun d hd => h d _ (.new hd) upd_same⟩
theorem raK2 {C : Addr} {f f2 : Str} {W : L2.WX} {v u : V} (h : ∀ d H', GrA H H' → H' d = some (.xd [(f2, u), (f, v)]) → W (.ref C) (some d) σ H') : RaK C [f, f2] W σ [v, u] H := ⟨rfl, fun d hd => h d _ (.new hd) upd_same⟩
theorem w_trn {k : Bool} {R : Bool → Prop} (h : R k) : ∃ k', TruV K (.bl k) H k' ∧ R k' := ⟨k, rfl, h⟩
theorem w_iteD {α : Type} {a : α} [inst : Decidable (a = a)] {A B : Prop} (h : A) : if decide (a = a) = true then A else B := by rw [decide_eq_true rfl, if_pos rfl]; exact h
theorem w_iteND {α : Type} {a : α} [inst : Decidable (a = a)] {A B : Prop} (h : B) : if (!decide (a = a)) = true then A else B := by rw [decide_eq_true rfl]; exact w_iteNT h
theorem w_tYes {QT : Bool → Hp → Prop} (h : QT true H) : tYes σ H QT := h
/-- over a text, sign by sign -/
theorem fr_T {z : Str} (Pv : Nat → L2.St → Hp → Prop) (h0 : Pv 0 σ H1) (hst : ∀ (i : Nat) c σ' H', z.cps[i]? = some c → Pv i σ' H' → g (.str ⟨#[c]⟩) σ' H' fun σ2 H2 => tb { D with nx := Pv (i + 1), ct := Pv (i + 1), bk := D.nx } σ2 H2)
    (hd : ∀ σ' H', Pv z.cps.size σ' H' → D.nx σ' H') : FrT g tb D σ (.str z) H1 :=
  ⟨z, rfl, frG (n := z.cps.size) (yl := fun _ _ _ => True) Pv h0 fun i σ' H' hi p => ⟨fun hlt => ⟨hlt, fun x H'' y => by
    obtain ⟨e1, c, e2, e3⟩ := y
    subst e1 e3
    exact hst i c σ' _ e2 p⟩, fun e => ⟨by subst e; exact Nat.le_refl _, hd σ' H' (by subst e; exact p)⟩⟩⟩
/-- the kinds of things that are asked whether they are whole numbers -/
inductive Kd (K : PySem.W.Frag) (H : Hp) : V → Prop
  | int (i : Int) : Kd K H (.int i)
  | bl (b : Bool) : Kd K H (.bl b)
  | str (s : Str) : Kd K H (.str s)
  | non : Kd K H .non
  | lst {a : Addr} {xs : List V} (h : SqL K H a xs) : Kd K H (.ref a)
  | tup {a : Addr} {xs : List V} (h : SqT K H a xs) : Kd K H (.ref a)
theorem Gr.kd {H' : Hp} {x : V} (g : Gr T H H') (h : Kd K H x) : Kd K H' x := by
  cases h with
  | int i => exact .int i
  | bl b => exact .bl b
  | str s => exact .str s
  | non => exact .non
  | lst h => exact .lst (g.sqL h)
  | tup h => exact .tup (g.sqT h)
def isInt : V → Bool
  | .int _ => true
  | _ => false
def isBl : V → Bool
  | .bl _ => true
  | _ => false
def isStr : V → Bool
  | .str _ => true
  | _ => false
theorem isi_int {x : V} {Q : VK} (h : Kd K H x) (q : Q (.bl (isInt x || isBl x)) H) : rIsi K [x, .ty "int"] H Q := by
  cases h with
  | int i => exact w_isi tyx_int (b := true) (by decide +kernel) q
  | bl b => exact w_isi tyx_bl (b := true) (by decide +kernel) q
  | str s => exact w_isi tyx_str (b := false) (by decide +kernel) q
  | non => exact w_isi tyx_non (b := false) (by decide +kernel) q
  | lst h => exact w_isi (tyx_L h) (b := false) (by decide +kernel) q
  | tup h => exact w_isi (tyx_T h) (b := false) (by decide +kernel) q
theorem isi_bool {x : V} {Q : VK} (h : Kd K H x) (q : Q (.bl (isBl x)) H) : rIsi K [x, .ty "bool"] H Q := by
  cases h with
  | int i => exact w_isi tyx_int (b := false) (by decide +kernel) q
  | bl b => exact w_isi tyx_bl (b := true) (by decide +kernel) q
  | str s => exact w_isi tyx_str (b := false) (by decide +kernel) q
  | non => exact w_isi tyx_non (b := false) (by decide +kernel) q
  | lst h => exact w_isi (tyx_L h) (b := false) (by decide +kernel) q
  | tup h => exact w_isi (tyx_T h) (b := false) (by decide +kernel) q
theorem isi_str {x : V} {Q : VK} (h : Kd K H x) (q : Q (.bl (isStr x)) H) : rIsi K [x, .ty "str"] H Q := by
  cases h with
  | int i => exact w_isi tyx_int (b := false) (by decide +kernel) q
  | bl b => exact w_isi tyx_bl (b := false) (by decide +kernel) q
  | str s => exact w_isi tyx_str (b := true) (by decide +kernel) q
  | non => exact w_isi tyx_non (b := false) (by decide +kernel) q
  | lst h => exact w_isi (tyx_L h) (b := false) (by decide +kernel) q
  | tup h => exact w_isi (tyx_T h) (b := false) (by decide +kernel) q
theorem isi_L {a : Addr} {xs : List V} {n : String} {b : Bool} {Q : VK} (h : SqL K H a xs) (e : kitB "list" n = some b) (q : Q (.bl b) H) : rIsi K [.ref a, .ty n] H Q := w_isi (tyx_L h) e q
theorem isi_T {a : Addr} {xs : List V} {n : String} {b : Bool} {Q : VK} (h : SqT K H a xs) (e : kitB "tuple" n = some b) (q : Q (.bl b) H) : rIsi K [.ref a, .ty n] H Q := w_isi (tyx_T h) e q
theorem isi_seqLT {a p : Addr} {xs : List V} {Q : VK} (ht : H p = some (.tup [.ty "list", .ty "tuple"])) (h : Sq K H a xs) (q : Q (.bl true) H) : rIsiT K [.ref a, .ref p] H Q := by
  rcases h with h | h
  · exact w_isiT ht (tyx_L h) (b := true) (c := false) (by decide +kernel) (by decide +kernel) q
  · exact w_isiT ht (tyx_T h) (b := false) (c := true) (by decide +kernel) (by decide +kernel) q
theorem isi_strN {a : Addr} {xs : List V} {Q : VK} (h : Sq K H a xs) (q : Q (.bl false) H) : rIsi K [.ref a, .ty "str"] H Q := by
  rcases h with h | h
  · exact w_isi (tyx_L h) (b := false) (by decide +kernel) q
  · exact w_isi (tyx_T h) (b := false) (by decide +kernel) q
end
end U
end
section
set_option Elab.async false
set_option linter.all false
set_option maxRecDepth 100000
set_option maxHeartbeats 4000000
/-! enumerate over a tuple -/
namespace U
open PySem PySem.Spec PyProof.Rows L2
theorem met_enum {v : Value} {o : Obj} {H : Heap → Prop} (B : Begins v o H) :
    Meets (Builtin.«enumerate.__new__» ⟨[.type "enumerate", v], []⟩) (fun _ R s => H s.heap ∧
      R (.ok (.ret (.ref (s.heap.push o).objs.size))) { s with heap := (s.heap.push o).push { cls := .type "enumerate", data := .fields #[.none, .bool false, .ref s.heap.objs.size, rawInt 0, .none, .none] } }) :=
  .of_wp fun prog w A R s h => by
    obtain ⟨hp, g, d, tk, os⟩ := s; obtain ⟨h1, h⟩ := h
    have hsub := sub_enumerate
    have q1 : ∀ {A' : Around} {E : Value → Shared → Prop} {Q : Value → Shared → Prop}, Q (.ref hp.objs.size) ⟨hp.push o, g, d, tk, os⟩ → wpAny (model prog w) A' (pyIter v) Q E ⟨hp, g, d, tk, os⟩ :=
      fun q => B.iter prog w _ _ ⟨hp, g, d, tk, os⟩ _ h1 q
    wp_walk using q1
    refine wpAny_stack_any fun st => wpAny_pure ?_
    split
    · rename_i c _ _ _ _ _
      cases (c == Value.type "enumerate")
      · wp_walk using q1
        exact ⟨_, rfl, h⟩
      · wp_walk using q1
        exact ⟨_, rfl, h⟩
    · wp_walk using q1
      exact ⟨_, rfl, h⟩
theorem call_enumT {prog : Program} {w : World} {A : Around} {E : Value → Shared → Prop} {s : Shared} {v : Value} {o : Obj} {H : Heap → Prop} {Q : Value → Shared → Prop} (B : Begins v o H) (h1 : H s.heap)
    (h : ∀ h', IsEnum h' (s.heap.objs.size + 1) s.heap.objs.size 0 .none → h'.get? s.heap.objs.size = some o → h'.objs.size = s.heap.objs.size + 2 →
      (∀ b o, s.heap.get? b = some o → h'.get? b = some o) → Q (.ref (s.heap.objs.size + 1)) { s with heap := h' }) :
    wpAny (model prog w) A (call (.type "enumerate") [v]) Q E s := by
  refine callType_new F.called_enumerate (by decide) (F.typeCall_enumerate_1 _) (F.newCall_enumerate_1 _) (fun obj => F.args_object_init_2 obj _) F.entry_enumerate_new
    (met_enum B) ⟨h1, ?_⟩
  have hz : (s.heap.push o).objs.size = s.heap.objs.size + 1 := Heap.size_push ..
  show _ ∧ _
  rw [hz]
  have he : IsEnum ((s.heap.push o).push { cls := .type "enumerate", data := .fields #[.none, .bool false, .ref s.heap.objs.size, rawInt 0, .none, .none] }) (s.heap.objs.size + 1) s.heap.objs.size 0 .none := by
    have := Heap.get?_push_size (s.heap.push o) (o := { cls := .type "enumerate", data := .fields #[.none, .bool false, .ref s.heap.objs.size, rawInt 0, .none, .none] }) rfl
    rw [hz] at this; exact this
  refine ⟨⟨_, he, rfl⟩, h _ he (Heap.get?_push_of_some _ (Heap.get?_push_size _ B.free)) (by rw [Heap.size_push, hz]) fun b o x => Heap.get?_push_of_some _ (Heap.get?_push_of_some _ x)⟩
/-- the tuple at a, each item in a new pair -/
def IteT (K : PySem.W.Frag) (a : Addr) : It :=
  ⟨fun i H => ∃ (xs : List V) (x : V), SqT K H a xs ∧ xs[i]? = some x, fun i H v H' => ∃ T x, v = .ref T ∧ H T = none ∧ H' = upd H T (.tup [.int (i : Nat), x]) ∧ ∀ xs, SqT K H a xs → xs[i]? = some x, fun i H => ∃ xs : List V, SqT K H a xs ∧ xs.length ≤ i⟩
theorem turn_enumT {P : Program} {w : World} {K : PySem.W.Frag} {elts : List Expr} {kk : Nat} {tpos : Pos} (a e it : Addr) :
    Turn P w K (.Tuple elts kk tpos) (IteT K a) [e, it] e (fun i h => (∃ old, IsEnum h e it ((i : Nat) : Int) old) ∧ h.IsTupleIter it a i ∧ e ≠ it) where
  mem := by simp
  obj := fun i h st b hb => by
    obtain ⟨⟨old, he⟩, ⟨o, ho, hc, hd⟩, _⟩ := st
    have e' : b = e ∨ b = it := by simpa using hb
    rcases e' with z | z
    · rw [z]; exact ⟨_, he, fun v q => nomatch q⟩
    · rw [z]; exact ⟨o, ho, fun v q => by rw [hd] at q; cases q⟩
  keep := fun i h h' st k => let ⟨⟨old, he⟩, hi, hne⟩ := st; ⟨⟨old, k e (by simp) _ he⟩, hi.at fun o q => k it (by simp) o q, hne⟩
  item := by
    intro X hP hw hK hc i pins s σ H E I hf st hg
    subst hP hw hK
    obtain ⟨⟨old, he⟩, hit, hne⟩ := st
    obtain ⟨xs, x, hq, hx⟩ := hg
    obtain ⟨its, rv, p, hz⟩ := I.tuple hq
    obtain ⟨u, hu, ru⟩ := rv.get hx
    have hT0 : s.heap.IsTuple a its.toArray := p
    have hel : e < s.heap.objs.size := Heap.lt_size he
    have hil : it < s.heap.objs.size := by obtain ⟨_, q, _⟩ := hit; exact Heap.lt_size q
    have hai : a ≠ it := fun z => by
      subst z
      obtain ⟨o1, g1, c1, _⟩ := hT0
      obtain ⟨o2, g2, c2, _⟩ := hit
      rw [g1] at g2
      cases g2
      rw [c1] at c2
      injection c2 with c3
      revert c3
      decide
    have hea : e ≠ a := fun z => by
      subst z
      obtain ⟨o1, g1, c1, _⟩ := hT0
      have g2 : s.heap.get? e = _ := he
      rw [g1] at g2
      cases g2
      injection c1 with c3
      revert c3
      decide
    have hef : e ∉ [it, a] := fun z => by
      simp only [List.mem_cons, List.not_mem_nil, or_false] at z
      rcases z with z | z
      · exact hne z
      · exact hea z
    have hlt : i < its.toArray.size := by
      have := (List.getElem?_eq_some_iff.mp hu).1
      simpa using this
    refine wpAny_pyNext_enum_itemD (Draws.tuple (A := X.A.in1) (I.ok.hd hc) it a hai its.toArray) he ⟨hit, hT0⟩ hlt hne hef fun y h' tk hy ho hst' hT hsz hk => ?_
    have ey : y = u := by
      have h1 : its.toArray[i]? = some u := by simpa using hu
      have h2 : its.toArray[i]? = some y := hy
      rw [h1] at h2
      exact (Option.some.inj h2).symm
    subst ey
    refine ⟨_, rfl, wpAny_letOwnedTupleGo_enum (s := { s with heap := h', toks := tk + 1 }) ho fun h'' he' sb => ?_⟩
    have hT2 : h''.get? s.heap.objs.size = some { cls := .type "tuple", data := .seq #[.int i tk, y] } := (sb.2 _ (Nat.ne_of_gt hel)).trans hT
    have new : ObjOk X.prog X.w (upd H s.heap.objs.size (.tup [.int (i : Nat), x])) h'' s.heap.objs.size (.tup [.int (i : Nat), x]) :=
      ⟨by show 2 ≤ sizeLine; decide, [.int i tk, y], .cons ⟨_, rfl⟩ (.cons ru .nil), ⟨_, hT2, rfl, _, rfl⟩⟩
    have I1 : Inv X pins σ (upd H s.heap.objs.size (.tup [.int (i : Nat), x])) { s with heap := h'', toks := tk + 1 } :=
      I.turnedNew (ch := [e, it]) (fun b ob hb q => (sb.2 b (fun z => hb (by simp [z]))).trans (hk b ob (fun z => hb (by simp [z])) (fun z => hb (by simp [z])) q)) hf (Nat.le_refl _) new
    refine ⟨.ref s.heap.objs.size, _, I1, rfl, ⟨_, x, rfl, I.hok.fresh (Nat.le_refl _), rfl, fun ys hy => by rw [I.tuple_inj hy hq]; exact hx⟩, ⟨⟨y, ?_⟩, hst'.1.at fun o q => (sb.2 it (Ne.symm hne)).trans q, hne⟩, fun b hb => ?_⟩
    · have e1 : ((i + 1 : Nat) : Int) = (i : Int) + 1 := by omega
      rw [e1]; exact he'
    · have hb' : b < s.heap.objs.size := by
        have e' : b = e ∨ b = it := by simpa using hb
        rcases e' with z | z
        · rw [z]; exact hel
        · rw [z]; exact hil
      rw [upd_ne (Nat.ne_of_lt hb')]
      exact (hf b hb).1
  done := by
    intro X hP hw hK hc i pins s σ H E I hf st hg
    subst hP hw hK
    obtain ⟨⟨old, he⟩, hit, hne⟩ := st
    obtain ⟨xs, hq, hx⟩ := hg
    obtain ⟨its, rv, p, hz⟩ := I.tuple hq
    have hT0 : s.heap.IsTuple a its.toArray := p
    obtain ⟨f0, f1, f2, f3, f4, f5⟩ := hf it (by simp)
    have hl := rv.length
    have hT : s.TypeIs (.ref e) "enumerate" := ⟨_, he, rfl⟩
    unfold pyNext
    refine wpAny_bind (wpAny_attempt (wpAny_callSpecial?_slot (name := Str.ofString "__next__") hT F.slot_enumerate_next
      (wpAny_call_entry F.slot_enumerate_next hT F.entry_enumerate_next ?_ (F.args_enumerate_next_1 _))))
    show wpAny _ _ (field (.ref e) 2 >>= _) _ _ _
    refine wpAny_bind (wpAny_field he rfl (x := .ref it) rfl ?_)
    refine wpAny_bind (wpAny_nextOf_tuple_end (I.ok.hd hc) hit hT0 (by simp; omega) fun h' x he' hx' => ?_)
    obtain ⟨o, ho, hc2⟩ := hx'
    refine wpAny_bind (wpAny_isInstance (T := "StopIteration") (b := true) ⟨o, ho, hc2⟩ isSubtype_stop ?_)
    exact wpAny_pure ⟨rfl, I.turned (t' := s.toks) (fun b o hb e => he' b o hb e) f0 f1 f3 f4 f5⟩
  self := fun A i s Q E st h => let ⟨⟨_, he⟩, _⟩ := st; wpAny_pyIter_enum he h
def iEnumT (K : PySem.W.Frag) (ta : TA) : TI := fun σ H R => ta σ H fun vs H1 => ∃ a xs, vs = [.ref a] ∧ SqT K H1 a xs ∧ R (IteT K a) H1
theorem pi_enumT {X : Cx} {e : Expr} {ta : TA} {p pos tpos : Pos} {elts : List Expr} {kk : Nat} (hg : Gl X "enumerate") (hm : X.mg "enumerate" = none) (ha : PA X [e] ta) (hs : starEach [e] X.env = [(false, eval e X.env)] := by rfl) :
    PI X (.Tuple elts kk tpos) (.Call (.Name "enumerate" p) [e] [] pos) (iEnumT X.K ta) := by
  refine ⟨fun pins s σ H R I h => ?_⟩
  refine Call_ (ld_blt I hg hm boot_enumerate (PyProof.Rows.callWith_type1 (thn (ha.run pos pins s σ H _ I h) fun us s1 ⟨vs, H1, I1, r1, q1⟩ => ?_) hs rfl))
  obtain ⟨a, xs, ex, hq, q⟩ := q1
  subst ex
  cases r1 with
  | cons r rr =>
    cases rr
    cases r
    obtain ⟨its, rv, p', hz⟩ := I1.tuple hq
    refine call_enumT (begins_tuple a its.toArray) p' fun h' he hit hsz hk => wpAny_pyIter_enum he ?_
    have I2 : Inv X pins σ H1 { s1 with heap := h' } := I1.kept (t' := s1.toks) hk
    refine ⟨s1.heap.objs.size + 1, [s1.heap.objs.size + 1, s1.heap.objs.size], _, _, H1, rfl, I2, turn_enumT a (s1.heap.objs.size + 1) s1.heap.objs.size, ⟨⟨.none, he⟩, ⟨_, hit, rfl, rfl⟩, Nat.succ_ne_self _⟩, fun b hb => ?_, q⟩
    have e' : b = s1.heap.objs.size + 1 ∨ b = s1.heap.objs.size := by simpa using hb
    have hle : s1.heap.objs.size ≤ b := by
      rcases e' with z | z
      · rw [z]; exact Nat.le_add_right _ _
      · rw [z]; exact Nat.le_refl _
    exact I1.fpOk hle (I1.hok.fresh hle)
section
variable {K : PySem.W.Frag} {T : List (Addr × Str)} {H H1 : Hp} {tb : TS} {D : Ends} {σ : L2.St} {ta : TA} {g : TG}
theorem yl_enumT {a : Addr} {xs : List V} (h : SqT K H1 a xs) : Yl T (IteT K a) H1 xs.length fun i x H' => ∃ p y, x = .ref p ∧ H' p = some (.tup [.int (i : Nat), y]) ∧ xs[i]? = some y := fun H' g => by
  have h' := g.sqT h
  refine ⟨fun i hi => ⟨xs, xs[i], h', List.getElem?_eq_getElem hi⟩, fun i hi => ⟨xs, h', hi⟩, fun i x H'' hi y => ?_⟩
  obtain ⟨p, z, e1, e2, e3, f⟩ := y
  rw [e3]
  exact ⟨Gr.new e2, p, z, e1, upd_same, f xs h'⟩
def FrET (K : PySem.W.Frag) (g : TG) (tb : TS) (D : Ends) (σ : L2.St) (xs : List V) (H1 : Hp) : Prop := ∃ a ys, xs = [.ref a] ∧ SqT K H1 a ys ∧ Fr (IteT K a) g tb D σ H1
theorem w_frET (h : ta σ H fun x H1 => FrET K g tb D σ x H1) : tFor (iEnumT K ta) g tb D σ H := h
theorem fr_ET {a : Addr} {xs : List V} {j j2 : Nat} (hs : SqT K H1 a xs) (Pv : Nat → L2.St → Hp → Prop) (h0 : Pv 0 σ H1) (hk : ∀ i σ' H', Pv i σ' H' → Gr T H1 H')
    (hst : ∀ (i : Nat) x σ' H' H2, xs[i]? = some x → Pv i σ' H' → Gr T H' H2 → tb { D with nx := Pv (i + 1), ct := Pv (i + 1), bk := D.nx } ((σ'.set j (some (.int (i : Nat)))).set j2 (some x)) H2) (hd : ∀ σ' H', Pv xs.length σ' H' → D.nx σ' H') :
    FrET K (gTup K 2 (gCons (gName j) (gCons (gName j2) gNil))) tb D σ [.ref a] H1 := by
  refine ⟨a, xs, rfl, hs, frG (n := xs.length) (yl := fun _ _ _ => True) Pv h0 fun i σ' H' hi p => ?_⟩
  obtain ⟨y1, y2, y3⟩ := yl_enumT (T := T) hs H' (hk i σ' H' p)
  refine ⟨fun hlt => ⟨y1 i hlt, fun x H'' y => ?_⟩, fun e => ⟨y2 i (by omega), hd σ' H' (by rw [← e]; exact p)⟩⟩
  obtain ⟨gr, q, z, rfl, h1, h2⟩ := y3 i x H'' hlt y
  exact ⟨q, _, rfl, .inl (.inl h1), rfl, _, _, rfl, _, _, rfl, rfl, hst i z σ' H' H'' h2 p gr⟩
end
end U
end
section
set_option Elab.async false
set_option linter.all false
set_option maxRecDepth 100000
set_option maxHeartbeats 4000000
/-! the jar that a law draws from: one thing, whatever stands in it -/
namespace U
open PySem PySem.Spec PyProof.Rows L2 LamX Evl
/-- what stands in a jar: the cells, the next one's place, the great cell, its turns, the stir, the count -/
structure JarV (c : Addr) (jv : List V) : Prop where
  is : ∃ p b k s m : Int, jv = [.ref c, .int p, .int b, .int k, .int s, .int m] ∧ 0 ≤ p ∧ 0 ≤ s ∧ s < 2147483579
def JarO (J c : Addr) : HO := .ext fun h => ∃ (jv : List V) (its : List Value) (n : Nat), JarV c jv ∧ Vals jv its ∧ h.get? J = some { cls := .type "list", data := .seq its.toArray n }
section
variable {P : Program} {w : World} {H : Hp} {h : Heap} {J c : Addr}
theorem jar_ok {jv : List V} {its : List Value} {n : Nat} (g : JarV c jv) (r : Vals jv its) (e : h.get? J = some { cls := .type "list", data := .seq its.toArray n }) : ObjOk P w H h J (JarO J c) :=
  ⟨⟨jv, its, n, g, r, e⟩, ⟨_, e⟩, fun h1 h2 z k => by
    obtain ⟨jv, its, n, g, r, e⟩ := z
    exact ⟨jv, its, n, g, r, k _ e⟩⟩
theorem jar_at (hok : HOk P w H h) (e : H J = some (JarO J c)) : ∃ (jv : List V) (its : List Value) (n : Nat), JarV c jv ∧ Vals jv its ∧ h.get? J = some { cls := .type "list", data := .seq its.toArray n } := by
  have x : ObjOk P w H h J (.ext fun h => ∃ (jv : List V) (its : List Value) (n : Nat), JarV c jv ∧ Vals jv its ∧ h.get? J = some { cls := .type "list", data := .seq its.toArray n }) := hok J _ e
  exact x.1
theorem jarV_len {jv : List V} (g : JarV c jv) : jv.length = 6 := by
  obtain ⟨p, b, k, s, m, e, _⟩ := g.is
  rw [e]
  rfl
theorem lst_at {xs : List V} (hok : HOk P w H h) (e : H J = some (.lst xs)) : ∃ (its : List Value) (n : Nat), Vals xs its ∧ h.get? J = some { cls := .type "list", data := .seq its.toArray n } := by
  have x : ObjOk P w H h J (.lst xs) := hok J _ e
  exact x.2
/-- what stands at one place is told otherwise: neither a tuple nor a dict of an instance -/
theorem hok_upd {o u : HO} (hok : HOk P w H h) (e : H J = some o) (n1 : ∀ x, o ≠ .own x) (n2 : ∀ xs, o ≠ .tup xs) (hu : ObjOk P w (upd H J u) h J u) : HOk P w (upd H J u) h := fun b v q => by
  by_cases hb : b = J
  · rw [hb, upd_same] at q
    cases q
    rw [hb]
    exact hu
  · rw [upd_ne hb] at q
    refine (hok b v q).stay (fun _ _ _ z => z) (fun a z => ?_) fun a xs z => ?_
    · rw [upd_ne (fun y => n1 _ (by rw [y, e] at z; exact Option.some.inj z))]
      exact z
    · rw [upd_ne (fun y => n2 _ (by rw [y, e] at z; exact Option.some.inj z))]
      exact z
theorem lst_own {xs : List V} : ∀ x, HO.lst xs ≠ .own x := fun _ z => by cases z
theorem lst_tup {xs : List V} : ∀ ys, HO.lst xs ≠ .tup ys := fun _ z => by cases z
theorem jar_own : ∀ x, JarO J c ≠ .own x := fun x z => by
  have z' : HO.ext _ = HO.own x := z
  cases z'
theorem jar_tup : ∀ ys, JarO J c ≠ .tup ys := fun x z => by
  have z' : HO.ext _ = HO.tup x := z
  cases z'
theorem jar_frz {o : Obj} {u : HO} : JarO J c ≠ .frz o u := fun z => by
  have z' : HO.ext _ = HO.frz o u := z
  cases z'
theorem jar_tbl : ∀ ps, JarO J c ≠ .tbl ps := fun x z => by
  have z' : HO.ext _ = HO.tbl x := z
  cases z'
end
section
variable {P : Program} {w : World} {K : PySem.W.Frag} {mg : Str → Option Value} {base : Heap} {k : Nat} {f : Addr} {fd : FuncData} {ps : List Str} {sp sp' : Sp}
/-- a def that draws: within it the jar is a list -/
theorem fn_jar (F : FnOk P w K mg base (L2N.CX P w) k f fd ps sp) (len : ∀ vs H Q E, sp' vs H Q E → vs.length = ps.length)
    (h : ∀ vs H Q E, sp' vs H Q E → ∃ J c, H J = some (JarO J c) ∧ ∀ jv, JarV c jv → sp vs (upd H J (.lst jv)) (fun v H' => ∃ jv', H' J = some (.lst jv') ∧ JarV c jv' ∧ Q v (upd H' J (JarO J c))) fun _ _ _ => False) :
    FnOk P w K mg base (L2N.CX P w) k f fd ps sp' := by
  refine ⟨len, fun A outer s H args us vs Q E hr e0 hb r q => ?_⟩
  obtain ⟨J, c, hJ, q⟩ := h _ _ _ _ q
  obtain ⟨jv, its, n, g, rv, ho⟩ := jar_at e0.hok hJ
  have nJ : ∀ b, H b = none → b ≠ J := fun b z y => by rw [y, hJ] at z; cases z
  have e2 : Env0 P w K mg base A outer s (upd H J (.lst jv)) := by
    refine ⟨e0.frames, e0.mod, fun b o z => ⟨(e0.bs b o z).1, ?_⟩, e0.bsz, e0.funs, fun b z => ?_, ?_, e0.bare⟩
    · have := (e0.bs b o z).2
      rw [upd_ne (nJ b this)]
      exact this
    · have := e0.frf b z
      rw [upd_ne (nJ b this)]
      exact this
    · refine hok_upd e0.hok hJ jar_own jar_tup ⟨by rw [jarV_len g]; decide, its, n, rv, ho⟩
  refine codeAny_mono (F.run A outer s _ args us vs _ _ hr e2 hb r (q jv g)) fun rs s' hq => ?_
  cases rs with
  | error e =>
    exact (noCX s _ e s' hq).elim
  | ok fl =>
    cases fl with
    | ret u =>
      obtain ⟨v, H3, os, bare, un, hok, rv', jv', h3, g', q'⟩ := hq
      obtain ⟨its', n', rv3, ho3⟩ := lst_at hok h3
      have ne : ∀ b o, H b = some o → o ≠ JarO J c → b ≠ J := fun b o z d y => by
        rw [y, hJ] at z
        exact d (Option.some.inj z).symm
      refine ⟨v, upd H3 J (JarO J c), os, bare, ⟨fun b o e n hb hx => ?_, fun b o e n hb hx => ?_, fun b o e n hx => ?_, un.there, fun b xs e => ?_, fun b o u e => ?_, fun b ps e => ?_⟩, ?_, rv', q'⟩
      · exact un.keep b o e (by rw [upd_ne (nJ b n)]; exact n) hb hx
      · exact un.slot b o e (by rw [upd_ne (nJ b n)]; exact n) hb hx
      · rw [upd_ne (nJ b n)]
        exact un.free b o e (by rw [upd_ne (nJ b n)]; exact n) hx
      · have nb := ne b _ e (fun z => jar_tup _ z.symm)
        rw [upd_ne nb]
        exact un.tups b xs (by rw [upd_ne nb]; exact e)
      · have nb := ne b _ e (fun z => jar_frz z.symm)
        rw [upd_ne nb]
        exact un.frzs b o u (by rw [upd_ne nb]; exact e)
      · have nb := ne b _ e (fun z => jar_tbl _ z.symm)
        rw [upd_ne nb]
        exact un.tbls b ps (by rw [upd_ne nb]; exact e)
      · exact hok_upd hok h3 lst_own lst_tup (jar_ok g' rv3 ho3)
    | next => exact False.elim hq
    | brk => exact False.elim hq
    | cont => exact False.elim hq
/-- the def that makes it -/
theorem fn_bag (F : FnOk P w K mg base (L2N.CX P w) k f fd ps sp) (len : ∀ vs H Q E, sp' vs H Q E → vs.length = ps.length)
    (h : ∀ vs H Q E, sp' vs H Q E → sp vs H (fun v H' => ∃ J c jv, v = .ref J ∧ H J = none ∧ H' J = some (.lst jv) ∧ JarV c jv ∧ Q v (upd H' J (JarO J c))) fun _ _ _ => False) :
    FnOk P w K mg base (L2N.CX P w) k f fd ps sp' := by
  refine ⟨len, fun A outer s H args us vs Q E hr e0 hb r q => ?_⟩
  refine codeAny_mono (F.run A outer s _ args us vs _ _ hr e0 hb r (h _ _ _ _ q)) fun rs s' hq => ?_
  cases rs with
  | error e =>
    exact (noCX s _ e s' hq).elim
  | ok fl =>
    cases fl with
    | ret u =>
      obtain ⟨v, H3, os, bare, un, hok, rv', J, c, jv', ev, hJ, h3, g', q'⟩ := hq
      obtain ⟨its', n', rv3, ho3⟩ := lst_at hok h3
      have ne : ∀ b o, H b = some o → b ≠ J := fun b o z y => by rw [y, hJ] at z; cases z
      refine ⟨v, upd H3 J (JarO J c), os, bare, ⟨un.keep, un.slot, fun b o e n hx => ?_, un.there, fun b xs e => ?_, fun b o u e => ?_, fun b ps e => ?_⟩, ?_, rv', q'⟩
      · have z := un.free b o e n hx
        rw [upd_ne (fun y => by rw [y, h3] at z; cases z)]
        exact z
      · rw [upd_ne (ne b _ e)]
        exact un.tups b xs e
      · rw [upd_ne (ne b _ e)]
        exact un.frzs b o u e
      · rw [upd_ne (ne b _ e)]
        exact un.tbls b ps e
      · exact hok_upd hok h3 lst_own lst_tup (jar_ok g' rv3 ho3)
    | next => exact False.elim hq
    | brk => exact False.elim hq
    | cont => exact False.elim hq
theorem Has.jar {x : Str} (h0 : Has P w K mg base x k ps sp) (len : ∀ vs H Q E, sp' vs H Q E → vs.length = ps.length)
    (h : ∀ vs H Q E, sp' vs H Q E → ∃ J c, H J = some (JarO J c) ∧ ∀ jv, JarV c jv → sp vs (upd H J (.lst jv)) (fun v H' => ∃ jv', H' J = some (.lst jv') ∧ JarV c jv' ∧ Q v (upd H' J (JarO J c))) fun _ _ _ => False) : Has P w K mg base x k ps sp' := by
  obtain ⟨g, kp, fd, F, B⟩ := h0
  exact ⟨g, kp, fd, fn_jar F len h, B⟩
theorem Has.bag {x : Str} (h0 : Has P w K mg base x k ps sp) (len : ∀ vs H Q E, sp' vs H Q E → vs.length = ps.length)
    (h : ∀ vs H Q E, sp' vs H Q E → sp vs H (fun v H' => ∃ J c jv, v = .ref J ∧ H J = none ∧ H' J = some (.lst jv) ∧ JarV c jv ∧ Q v (upd H' J (JarO J c))) fun _ _ _ => False) : Has P w K mg base x k ps sp' := by
  obtain ⟨g, kp, fd, F, B⟩ := h0
  exact ⟨g, kp, fd, fn_bag F len h, B⟩
/-- a jar, and its cells -/
def Jar (K : PySem.W.Frag) (H : Hp) (J : Addr) : Prop := ∃ c, ∃ ns : List Int, H J = some (JarO J c) ∧ SqL K H c (ns.map V.int) ∧ ns.length ≤ 1000
theorem Gr.jar {T : List (Addr × Str)} {H H' : Hp} {J : Addr} (g : Gr T H H') (h : Jar K H J) : Jar K H' J := by
  obtain ⟨c, ns, h1, h2, h3⟩ := h
  exact ⟨c, ns, g.keep J _ h1 fun _ z => jar_tbl _ z, g.sqL h2, h3⟩
end
end U
end
section
set_option Elab.async false
set_option linter.all false
set_option maxRecDepth 100000
set_option maxHeartbeats 4000000
/-! defs that get the handled exception -/
namespace U
open PySem PySem.Spec PyProof.Rows L2 LamX Evl L2H HotX LHot LX
theorem roomH_units {k : Nat} {A : Around} (r : RoomH k A) : A.units + 64 < cLine := by have := r.un; omega
structure HasE (P : Program) (w : World) (K : PySem.W.Frag) (mg : Str → Option Value) (base : Heap) (x : Str) (k : Nat) (ps : List Str) (sp : SpE) : Prop where
  g : mg x = some (.ref (He.ga K x))
  kp : PySem.W.keepIn K (.ref (He.ga K x)) = true
  fn : ∃ fd, FnE P w K mg base (L2N.CX P w) k (He.ga K x) fd ps sp ∧ Binds K fd ps []
section
variable {X : Cx} {k n : Nat} {x : Str} {ps : List Str} {sp : SpE} {e : Expr} {es : List Expr} {t : TA} {p pos : Pos} {a D : Addr} {c : Value} {d : Option Addr}
theorem pe_callUE (h : HasE X.prog X.w X.K X.mg X.base x k ps sp) (hr : RoomH n X.A) (hk : k ≤ n) (hc : HotE X a c d) (hg : Gl X x) (ha : PA X (e :: es) t)
    (hdb : (x == ("__debug__" : Str)) = false := by decide) (he : starEach (e :: es) X.env = (false, eval e X.env) :: starEach es X.env := by rfl) (hpl : (backTo pos (starEach es X.env)).any (·.1) = false := by rfl) :
    PE X (.Call (.Name x p) (e :: es) [] pos) (tCallE sp a c d t) := by
  obtain ⟨g, kp, fd, F, B⟩ := h
  exact pe_callE F (hr.mono hk) hc hg g kp B noCX ha hdb he hpl
/-- e.f: that the class has no such name is asked where it is read -/
def tXG (K : PySem.W.Frag) (D a : Addr) (d : Option Addr) (f : Str) (te : TE) : TE := fun σ H Q => PySem.W.findIn K (.ref D) f = some none ∧ tXF a d f te σ H Q
theorem pe_xG {te : TE} {f : Str} (T : XfC X.K D) (hp : PinE X a (.ref D) d) (he : PE X e te) (hb : attributeBase e f X.env (eval e X.env) = eval e X.env := by rfl) : PE X (.Attribute e f pos) (tXG X.K D a d f te) :=
  ⟨fun pins s σ H Q I h => (pe_xF (pos := pos) T h.1 hp he hb).run pins s σ H Q I h.2⟩
end
section
variable {K : PySem.W.Frag} {σ : L2.St} {H : Hp} {Q : VK} {te : TE} {a D dd : Addr} {f : Str} {fs : List (Str × V)} {v : V}
theorem w_xG (h0 : PySem.W.findIn K (.ref D) f = some none) (h : te σ H fun x H1 => x = .ref a ∧ ∃ (dd' : Addr) (fs : List (Str × V)) (v : V), some dd = some dd' ∧ H1 dd' = some (.xd fs) ∧ fs.lookup f = some v ∧ Q v H1) : tXG K D a (some dd) f te σ H Q := ⟨h0, h⟩
theorem w_callE {sp : SpE} {c : Value} {d : Option Addr} {t : TA} (h : t σ H fun vs H1 => sp a c d vs H1 Q (fun _ _ _ => False)) : tCallE sp a c d t σ H Q := h
/-- isinstance of the handled exception -/
theorem w_isX {C : Addr} {b : Bool} (h : LE.isB K D (.ref C) b = true) (hd : H dd = some (.xd fs)) (q : Q (.bl b) H) : rIsX K D a (some dd) [.ref a, .ref C] H Q := ⟨.ref C, .ref C, b, rfl, .own C, of_decide_eq_true h, .inr ⟨dd, fs, rfl, hd⟩, q⟩
theorem w_isXT {n : String} {b : Bool} (h : LE.isB K D (.type n) b = true) (hd : H dd = some (.xd fs)) (q : Q (.bl b) H) : rIsX K D a (some dd) [.ref a, .ty n] H Q := ⟨.ty n, .type n, b, rfl, .ty n, of_decide_eq_true h, .inr ⟨dd, fs, rfl, hd⟩, q⟩
theorem Gr.xd {T : List (Addr × Str)} {H H' : Hp} {p : Addr} {fs : List (Str × V)} (g : Gr T H H') (h : H p = some (.xd fs)) : H' p = some (.xd fs) := g.keep p _ h fun _ z => by cases z
end
/-! ### a comprehension while an exception is handled -/
section
variable {K : PySem.W.Frag} {T : List (Addr × Str)} {σ : L2.St} {H H1 : Hp} {Q : VK} {tl : TE} {g : TG} {tt : TT} {te : TE} {vs : List Nat}
def LcH (K : PySem.W.Frag) (g : TG) (tt : TT) (te : TE) (vs : List Nat) (σ : L2.St) (Q : VK) (x : V) (H1 : Hp) : Prop := ∃ a, x = .ref a ∧ (∃ xs, SqL K H1 a xs) ∧ Lc (Itl K a) g tt te vs σ Q H1
theorem w_lcH (h : tl σ H fun x H1 => LcH K g tt te vs σ Q x H1) : tLc (iList K tl) g tt te vs σ H Q := h
/-- pairs (text, bool) -/
def IsSB (K : PySem.W.Frag) (H : Hp) (x : V) (q : Str × Bool) : Prop := ∃ p, x = .ref p ∧ SqT K H p [.str q.1, .bl q.2]
def SbAll (K : PySem.W.Frag) (H : Hp) : List V → List (Str × Bool) → Prop := Paired (IsSB K H)
theorem Gr.sb {H H' : Hp} {x : V} {q : Str × Bool} (g : Gr T H H') (h : IsSB K H x q) : IsSB K H' x q := by
  obtain ⟨p, e, hs⟩ := h
  exact ⟨p, e, g.sqT hs⟩
theorem Gr.sbs {H H' : Hp} (g : Gr T H H') : ∀ {xs : List V} {qs : List (Str × Bool)}, SbAll K H xs qs → SbAll K H' xs qs
  | _, _, .nil => .nil
  | _, _, .cons a b => .cons (g.sb a) (Gr.sbs g b)
theorem SbAll.get {H : Hp} : ∀ {xs : List V} {qs : List (Str × Bool)} {i : Nat} {x : V}, SbAll K H xs qs → xs[i]? = some x → ∃ q, qs[i]? = some q ∧ IsSB K H x q
  | _, _, _, _, .nil, e => by simp at e
  | _, _, 0, _, .cons r _, e => by
    simp at e
    subst e
    exact ⟨_, rfl, r⟩
  | _, _, i + 1, x, .cons _ t, e => by
    obtain ⟨q, h1, h2⟩ := SbAll.get (i := i) (x := x) t (by simpa using e)
    exact ⟨q, by simpa using h1, h2⟩
theorem lc_SB {a : Addr} {xs : List V} {qs : List (Str × Bool)} {j j2 : Nat} (hs : SqL K H1 a xs) (hp : SbAll K H1 xs qs) (f : Str × Bool → Bool) (v : Str × Bool → V) (hz : qs.length ≤ 100000) (hw : ∀ x y, wipe (((wipe σ vs).set j (some x)).set j2 (some y)) vs = wipe σ vs)
    (hst : ∀ q ∈ qs, ∀ H2, Gr T H1 H2 → Turn1 T tt te (((wipe σ vs).set j (some (.str q.1))).set j2 (some (.bl q.2))) H2 (f q) (v q))
    (fin : ∀ D H3, Gr T H1 H3 → H1 D = none → H3 D = some (.lst ((qs.filter f).map v)) → Q (.ref D) H3) :
    LcH K (gTup K 2 (gCons (gName j) (gCons (gName j2) gNil))) tt te vs σ Q (.ref a) H1 := by
  have hlen : xs.length = qs.length := Paired.length hp
  refine ⟨a, rfl, ⟨xs, hs⟩, lcG (T := T) (yl_list hs) (by rw [hlen]; exact hz) (fun i => (qs[i]?).elim false f) (fun i => (qs[i]?).elim .non v) (fun i x H2 R hi gr e k => ?_) (fun D H3 g3 hD h3 => fin D H3 g3 hD (by rw [h3, hlen, given_opt]))⟩
  obtain ⟨q, hq, hp2⟩ := hp.get e
  obtain ⟨p, rfl, hp3⟩ := gr.sb hp2
  refine ⟨p, _, rfl, hp3, rfl, _, _, rfl, _, _, rfl, rfl, k _ (hw _ _) ?_⟩
  rw [hq]
  exact hst q (List.mem_of_getElem? hq) H2 gr
end
end U
end
section
set_option Elab.async false
set_option linter.all false
set_option maxRecDepth 100000
set_option maxHeartbeats 4000000
/-! heaps around a call that pins the frame's cells, and around a lambda's run -/
namespace U
open PySem PySem.Spec PyProof.Rows L2 LamX Evl LV NdefX
section
variable {K : PySem.W.Frag} {T : List (Addr × Str)} {H1 H2 H3 H4 H' : Hp} {cs : List Addr} {p : Addr} {xs : List V}
theorem pin_ext (c : Addr) (o : Obj) : ∃ φ, Pin c o = .ext φ := ⟨_, rfl⟩
theorem pin_lst {c : Addr} {o : Obj} {xs : List V} : Pin c o ≠ .lst xs := fun z => by
  obtain ⟨φ, e⟩ := pin_ext c o
  rw [e] at z
  cases z
theorem pin_tup {c : Addr} {o : Obj} {xs : List V} : Pin c o ≠ .tup xs := fun z => by
  obtain ⟨φ, e⟩ := pin_ext c o
  rw [e] at z
  cases z
theorem pin_frz {c : Addr} {o o' : Obj} {u : HO} : Pin c o ≠ .frz o' u := fun z => by
  obtain ⟨φ, e⟩ := pin_ext c o
  rw [e] at z
  cases z
theorem pin_tbl {c : Addr} {o : Obj} {ps : Array Value} : Pin c o ≠ .tbl ps := fun z => by
  obtain ⟨φ, e⟩ := pin_ext c o
  rw [e] at z
  cases z
/-- what stands in H1 stands in H2: lists, tuples -/
theorem sqL_to (h : SqL K H1 p xs) (k : ∀ o, H1 p = some o → (∀ φ, o ≠ .ext φ) → H2 p = some o) : SqL K H2 p xs := by
  rcases h with (h | ⟨o, h⟩) | h
  · exact .inl (.inl (k _ h fun _ z => by cases z))
  · exact .inl (.inr ⟨o, k _ h fun _ z => by cases z⟩)
  · exact .inr h
theorem sqT_to (h : SqT K H1 p xs) (k : ∀ o, H1 p = some o → (∀ φ, o ≠ .ext φ) → H2 p = some o) : SqT K H2 p xs := by
  rcases h with (h | ⟨o, h⟩) | h
  · exact .inl (.inl (k _ h fun _ z => by cases z))
  · exact .inl (.inr ⟨o, k _ h fun _ z => by cases z⟩)
  · exact .inr h
theorem Sq.to (h : Sq K H1 p xs) (k : ∀ o, H1 p = some o → (∀ φ, o ≠ .ext φ) → H2 p = some o) : Sq K H2 p xs := h.elim (fun z => .inl (sqL_to z k)) fun z => .inr (sqT_to z k)
theorem Kd.to {x : V} (h : Kd K H1 x) (k : ∀ b o, H1 b = some o → (∀ φ, o ≠ .ext φ) → H2 b = some o) : Kd K H2 x := by
  cases h with
  | int i => exact .int i
  | bl b => exact .bl b
  | str s => exact .str s
  | non => exact .non
  | lst h => exact .lst (sqL_to h (k _))
  | tup h => exact .tup (sqT_to h (k _))
/-- into the call: all that is tracked stands -/
theorem pinR_to (r : PinR H1 H2) : ∀ b o, H1 b = some o → H2 b = some o := fun b o e => by
  rcases r b with z | ⟨n, _⟩
  · rw [z]; exact e
  · rw [e] at n; cases n
/-- into the lambda: all but ext -/
theorem mix_to (hp : ∀ c ∈ cs, ∃ o, H2 c = some (Pin c o)) : ∀ b o, H2 b = some o → (∀ φ, o ≠ .ext φ) → mix cs HN H2 b = some o := fun b o e n => by
  by_cases z : b ∈ cs
  · obtain ⟨o', e'⟩ := hp b z
    rw [e] at e'
    obtain ⟨φ, e2⟩ := pin_ext b o'
    exact absurd ((Option.some.inj e').trans e2) (n φ)
  · rw [mix_out z]; exact e
/-- out of it: all -/
theorem mix_from (hf : ∀ c ∈ cs, H' c = none) : ∀ b o, H' b = some o → mix cs H2 H' b = some o := fun b o e => by
  by_cases z : b ∈ cs
  · rw [hf b z] at e; cases e
  · rw [mix_out z]; exact e
theorem gr_out (hp : ∀ c ∈ cs, ∃ o, H2 c = some (Pin c o)) (hn : ∀ c ∈ cs, ∀ q, H2 c ≠ some (CodeO c q)) (hf : ∀ c ∈ cs, H' c = none) (g : Gr T (mix cs HN H2) H') : Gr T H2 (mix cs H2 H') := by
  refine ⟨fun b o e n => ?_, fun b e => ?_, fun t => ?_⟩
  · by_cases z : b ∈ cs
    · rw [mix_in z]; exact e
    · rw [mix_out z]
      exact g.keep b o (by rw [mix_out z]; exact e) n
  · by_cases z : b ∈ cs
    · rw [mix_in z] at e; exact e
    · rw [mix_out z] at e
      have := g.free b e
      rw [mix_out z] at this
      exact this
  · have t1 : Tabs T (mix cs HN H2) := fun p hp2 => by
      obtain ⟨ps, a1, a2, a3⟩ := t p hp2
      refine ⟨ps, mix_to hp _ _ a1 (fun φ z => by cases z), a2, fun pos cv hc => ?_⟩
      obtain ⟨c, e1, e2⟩ := a3 pos cv hc
      refine ⟨c, e1, ?_⟩
      rw [mix_out (fun z => hn c z _ e2)]
      exact e2
    exact (g.tabs t1).ext fun b o e => mix_from hf b o e
/-- behind the call -/
theorem gr_unpin (r : PinR H1 H2) (g : Gr T H2 H3) (u : UnpR H1 H2 H3 H4) (k : CodeK H3 H4) : Gr T H1 H4 := by
  refine ⟨fun b o e n => ?_, fun b e => ?_, fun t => ?_⟩
  · have e3 := g.keep b o (pinR_to r b o e) n
    rcases u b with z | ⟨_, n1, _⟩
    · rw [z]; exact e3
    · rw [e] at n1; cases n1
  · rcases u b with z | ⟨_, n1, _⟩
    · rw [z] at e
      have n2 := g.free b e
      rcases r b with y | ⟨y, _⟩
      · rw [← y]; exact n2
      · exact y
    · exact n1
  · have t2 : Tabs T H2 := t.ext fun b o e => pinR_to r b o e
    have t3 := g.tabs t2
    intro p hp
    obtain ⟨ps0, b1, _⟩ := t p hp
    obtain ⟨ps, a1, a2, a3⟩ := t3 p hp
    refine ⟨ps, ?_, a2, fun pos cv hc => ?_⟩
    · rcases u p.1 with z | ⟨_, n1, _⟩
      · rw [z]; exact a1
      · rw [b1] at n1; cases n1
    · obtain ⟨c, e1, e2⟩ := a3 pos cv hc
      exact ⟨c, e1, k _ _ e2⟩
theorem kept_of (g : Gr T H2 H3) : Kept H1 H2 H3 := fun b o _ e => g.keep b _ e fun _ z => pin_tbl z
theorem unp_to (g : Gr T H2 H3) (u : UnpR H1 H2 H3 H4) : ∀ b o, H3 b = some o → (∀ φ, o ≠ .ext φ) → H4 b = some o := fun b o e n => by
  rcases u b with z | ⟨_, _, o', e'⟩
  · rw [z]; exact e
  · have := g.keep b _ e' fun _ z => pin_tbl z
    rw [e] at this
    obtain ⟨φ, e2⟩ := pin_ext b o'
    exact absurd ((Option.some.inj this).trans e2) (n φ)
end
end U
end
section
set_option Elab.async false
set_option linter.all false
set_option maxRecDepth 100000
/-! readings of number texts -/
namespace U
open PySem PySem.Spec PyProof.Rows L2
abbrev qMulW : R2 := rI CMulW fun i j => .int (i * j)
abbrev qFdivW : R2 := rI CDivW fun i j => .int (i / j)
abbrev qPart : V → List V → Hp → VK → Prop := fun x xs H Q => ∃ a b, x = .str a ∧ xs = [.str b] ∧ (b.length == 0) = false ∧ a.length ≤ sizeLine ∧
      ∀ p, H p = none → Q (.ref p) (upd H p (.tup [.str (Txt.partition a b).1, .str (Txt.partition a b).2.1, .str (Txt.partition a b).2.2]))
abbrev qFind : V → List V → Hp → VK → Prop := fun x xs H Q => ∃ a b, x = .str a ∧ xs = [.str b] ∧ Q (.int (Txt.find a b)) H
abbrev tJoin (ts : List TE) : TE := fun σ H Q => tJs ts Str.empty σ H fun out H1 => Q (.str out) H1
section
variable {X : Cx} {o e : Expr} {to te : TE}
theorem pe_find {apos pos : Pos} (ho : PE X o to) (he : PE X e te) (hs : starEach [e] X.env = [(false, eval e X.env)] := by rfl) (hbase : attributeBase o "find" X.env (eval o X.env) = eval o X.env := by rfl) (hline : (apos.endLine == pos.line) = true := by rfl) :
    PE X (.Call (.Attribute o "find" apos) [e] [] pos) (tM1 qFind to te) :=
  pe_m1 F.slot_str_find F.type_str_find mt_find ho he hs hbase hline
end
theorem w_joined {ts : List TE} {σ : L2.St} {H : Hp} {Q : VK} (h : tJs ts Str.empty σ H fun out H1 => Q (.str out) H1) : tJoin ts σ H Q := h
theorem w_js0 {acc : Str} {σ : L2.St} {H : Hp} {Q : Str → Hp → Prop} (h : Q acc H) : tJs [] acc σ H Q := h
theorem w_js1 {t : TE} {ts : List TE} {acc : Str} {σ : L2.St} {H : Hp} {Q : Str → Hp → Prop} (h : t σ H fun x H1 => ∃ y : Str, x = .str y ∧ (acc ++ y).length ≤ sizeLine ∧ tJs ts (acc ++ y) σ H1 Q) : tJs (t :: ts) acc σ H Q := h
theorem w_fmtI {te : TE} {σ : L2.St} {H : Hp} {Q : VK} {i : Int} (h : te σ H fun x H1 => x = .int i ∧ i.natAbs.log2 < 1920 ∧ Q (.str (toString i)) H1) (mono : ∀ {P R : VK}, (∀ v H, P v H → R v H) → te σ H P → te σ H R) : tFmt te σ H Q :=
  mono (fun v H1 ⟨e, h1, h2⟩ => .inr ⟨i, e, h1, h2⟩) h
theorem w_bits {te : TE} {σ : L2.St} {H : Hp} {Q : VK} (h : te σ H fun x H1 => ∃ i, x = .int i ∧ Q (.int (Builtin.Int.intBits i : Nat)) H1) : tBits te σ H Q := h
end U
end
section
set_option Elab.async false
set_option linter.all false
set_option maxRecDepth 100000
set_option maxHeartbeats 4000000
/-! an own exception class, called with keywords alone; the first store into its instance, whatever built-in it stands over -/
namespace LW
open PySem PySem.Spec PySem.HandSPX Builtin Builtin.ObjectAttr
section
variable {M : Model} {A : Around} {E : Value → Shared → Prop} {h : Heap} {g : Array GenState} {d : Drawn} {t : Nat} {os : OsState}
variable {nm q : Str} {C N : Addr} {bs bm bmB : List Value} {hdct : Bool} {sn : List Str} {sub : List Value} {ab : Bool} {col : Option Bool} {dd : Option Addr} {k0 k1 k2 k3 k5 : Option Value} {B newId initId : String}
theorem chk_new (F : ExcBaseFacts B newId initId bmB) (hT : ∀ X : String, bm.contains (.type X) = bmB.contains (.type X)) {kw : List (Str × Value)} {Q : Unit → Shared → Prop}
    (hC : h.get? C = some (excClassObj nm q C N bs bm hdct sn sub ab col dd k0 k1 k2 k3 k5 newId)) (hq : Q () ⟨h, g, d, t, os⟩) : wpAny M A (checkBuiltinCall newId ⟨[.ref C], kw⟩) Q E ⟨h, g, d, t, os⟩ := by
  have hcont : (Value.ref C :: bm).contains (.type B) = true := by rw [List.contains_cons, hT, F.hasB, Bool.or_true]
  have hstar := F.noStar
  simp only [checkBuiltinCall, F.newKind, F.newSplit, F.newRow]
  repeat (first | refine wpAny_loadPart_at hC ?_ | (refine wpAny_isSubtype_exc hC ?_; rw [hcont]) | refine wpAny_staticBase_exc hC ?_ | refine wpAny_madeBy_exc hC ?_ | simp only [bne_self_eq_false, Bool.false_eq_true, if_false] | wp_step)
  exact hq
theorem chk_type {kw : List (Str × Value)} {Q : Unit → Shared → Prop} (hC : h.get? C = some (excClassObj nm q C N bs bm hdct sn sub ab col dd k0 k1 k2 k3 k5 newId))
    (hq : Q () ⟨h, g, d, t, os⟩) : wpAny M A (checkBuiltinCall "type.__call__" ⟨[.ref C], kw⟩) Q E ⟨h, g, d, t, os⟩ := by
  have f3 := tc_sub
  have hT : (⟨h, g, d, t, os⟩ : Shared).TypeIs (.ref C) "type" := ⟨_, hC, rfl⟩
  simp only [checkBuiltinCall, tc_kind, tc_split]
  repeat (any_goals (first | assumption | with_reducible refine wpAny_loadPart_at hC ?_ | with_reducible refine wpAny_onRaise ?_ | with_reducible refine wpAny_map ?_ | wp_step))
end
section
variable {prog : Program} {w : World} {A : Around} {E : Value → Shared → Prop} {R : Result → Shared → Prop} {h : Heap} {g : Array GenState} {d : Drawn} {t : Nat} {os : OsState}
variable {nm q : Str} {C N : Addr} {bs bm bmB : List Value} {hdct : Bool} {sn : List Str} {sub : List Value} {ab : Bool} {col : Option Bool} {dd : Option Addr} {k0 k1 k2 k3 k5 : Option Value} {B newId initId : String}
theorem new_kw (F : ExcBaseFacts B newId initId bmB) (hT : ∀ X : String, bm.contains (.type X) = bmB.contains (.type X)) {kw : List (Str × Value)}
    (hC : h.get? C = some (excClassObj nm q C N bs bm hdct sn sub ab col dd k0 k1 k2 k3 k5 newId))
    (hq : R (.ok (.ret (.ref (h.objs.size + 1)))) ⟨(h.push (W.kdv_tup [])).push (excO C h.objs.size), g, d, t, os⟩) :
    codeAny (model prog w) A (.builtin newId ⟨[.ref C], kw⟩) R ⟨h, g, d, t, os⟩ := by
  have hends := F.ends
  have hrest : ([] : List Value).length ≤ sizeLine := by decide
  have hcB : (Value.ref C :: bm).contains (.type B) = true := by rw [List.contains_cons, hT, F.hasB, Bool.or_true]
  have hcA : (Value.ref C :: bm).contains (.type "AttributeError") = false := by rw [List.contains_cons, hT, F.noAttr]; rfl
  have hcN : (Value.ref C :: bm).contains (.type "NameError") = false := by rw [List.contains_cons, hT, F.noName]; rfl
  refine codeAny_builtinAt F.entry ?_
  unfold Builtin.«BaseException.__new__»
  refine wpAt_bind ?_
  show wpAt _ _ _ (stack >>= _) _ _ _
  refine wpAt_bind (wpAt_stack fun p below => wpAt_of_wpAny ?_)
  wp_walk
  refine wpAt_of_wpAny ?_
  rw [F.owner]
  repeat (first | with_reducible refine wpAny_madeHere_exc F.canon hC ?_ | with_reducible refine wpAny_loadPart_at hC ?_ | (with_reducible refine wpAny_isSubtype_exc hC ?_; first | rw [hcB] | rw [hcA] | rw [hcN]) | wp_step)
  show R _ _
  rw [Heap.size_push]
  exact hq
theorem type_kw (F : ExcBaseFacts B newId initId bmB) (hT : ∀ X : String, bm.contains (.type X) = bmB.contains (.type X)) {kw : List (Str × Value)} {fI : Addr} {Q : Fin → Shared → Prop}
    (hC : h.get? C = some (excClassObj nm q C N bs bm hdct sn sub ab col dd k0 k1 k2 k3 k5 newId))
    (hi : W.Looks (model prog w) h (typeLookup (.ref C) "__init__") (some (.ref fI))) (hb : ∀ self, W.Looks (model prog w) h (bindSpecial (.ref fI) self) (.ref fI, [self]))
    (hq : codeAny (model prog w) A (.call (.ref fI) ⟨[.ref (h.objs.size + 1)], kw⟩)
      (fun r s' => match r with | .ok (.ret v) => v = .none ∧ Q (.done (.ret (.ref (h.objs.size + 1)))) s' | .ok _ => False | .error e => E e s')
      ⟨(h.push (W.kdv_tup [])).push (excO C h.objs.size), g, d, t, os⟩) :
    wpAny (model prog w) A (Builtin.«type.__call__» ⟨[.ref C], kw⟩) Q E ⟨h, g, d, t, os⟩ := by
  repeat (first | with_reducible refine wpAny_loadPart_at hC ?_ | with_reducible refine wpAny_madeBy_exc hC ?_ | wp_step)
  refine codeAny_call_builtin_code (Code.quiet_builtin _ F.quiet) (chk_new F hT hC ?_)
  refine new_kw F hT hC ?_
  show wpAny _ _ _ _ _ _
  have k : ∀ b o, h.get? b = some o → ((h.push (W.kdv_tup [])).push (excO C h.objs.size)).get? b = some o := fun b o e => Heap.get?_push_of_some _ (Heap.get?_push_of_some _ e)
  have hC₁ := k _ _ hC
  have hget : ((h.push (W.kdv_tup [])).push (excO C h.objs.size)).get? (h.objs.size + 1) = some (excO C h.objs.size) := by heap_get
  have hcC : (Value.ref C :: bm).contains (.ref C) = true := by simp
  have i1 := hi.keeps k
  have b1 := (hb (.ref (h.objs.size + 1))).keeps k
  unfold isInstance
  repeat (first | with_reducible refine wpAny_loadPart_at hget ?_ | (with_reducible refine wpAny_isSubtype_exc hC₁ ?_; rw [hcC]) | wp_step)
  show wpAny _ _ (typeLookup (.ref C) _) _ _ _
  refine i1.at ?_
  refine wpAny_holding (wpAny_bind (b1.at ?_))
  refine wpAny_bind (wpAny_call (codeAny_mono hq fun r s' z => ?_))
  rcases r with e | (v | _ | _ | _) <;> first | exact z | exact z.elim | skip
  obtain ⟨rfl, z⟩ := z
  first
    | exact wpAny_pure (wpAny_pure z)
    | (wp_walk; exact z)
theorem call_kw (F : ExcBaseFacts B newId initId bmB) (hT : ∀ X : String, bm.contains (.type X) = bmB.contains (.type X)) {kw : List (Str × Value)} {fI : Addr}
    (hC : h.get? C = some (excClassObj nm q C N bs bm hdct sn sub ab col dd k0 k1 k2 k3 k5 newId))
    (hi : W.Looks (model prog w) h (typeLookup (.ref C) "__init__") (some (.ref fI))) (hb : ∀ self, W.Looks (model prog w) h (bindSpecial (.ref fI) self) (.ref fI, [self]))
    (hq : codeAny (model prog w) (A.under (.builtin "type.__call__" ⟨[.ref C], kw⟩)) (.call (.ref fI) ⟨[.ref (h.objs.size + 1)], kw⟩) (W.InitBack (h.objs.size + 1) R)
      ⟨(h.push (W.kdv_tup [])).push (excO C h.objs.size), g, d, t, os⟩) :
    codeAny (model prog w) A (.call (.ref C) ⟨[], kw⟩) R ⟨h, g, d, t, os⟩ := by
  have f1 := tc_lookup
  have f2 := tc_bind (.ref C)
  have hTy : (⟨h, g, d, t, os⟩ : Shared).TypeIs (.ref C) "type" := ⟨_, hC, rfl⟩
  refine codeAny_of_tree ?_
  show wpAny _ _ (callAny (.ref C) _) _ _ _
  repeat (any_goals (first | assumption | with_reducible refine wpAny_loadPart_at hC ?_ | wp_step))
  refine ⟨rfl, ?_⟩
  refine codeAny_call_builtin_at (Code.quiet_builtin _ (by decide +kernel)) entry_typeCall (chk_type hC (type_kw F hT hC hi hb ?_))
  refine codeAny_mono hq fun r s' z => ?_
  rcases r with e | (v | _ | _ | _) <;> exact z
/-- the first store -/
theorem osa_new {K : W.Frag} {name : Str} {tk : Tok} {v : Value} {x : Addr} {fv : Array Value} (SF : StoreFacts B bmB "object.__setattr__" "object")
    (X : K.In h) (hx : h.get? x = some { cls := .ref C, data := .fields fv }) (hp : W.excOver K C bmB = true) (ht : W.takerIn K C name = some none) (hh : W.hasDictIn K C = true)
    (hq : ∀ h' tk' dx, (∀ b o, b ≠ x → h.get? b = some o → h'.get? b = some o) → h.objs.size ≤ dx → dx ≠ x → h'.get? x = some { cls := .ref C, dict := some dx, data := .fields fv } →
      h'.Ns1 dx (fun y => if y = name then some v else none) → R (.ok (.ret .none)) ⟨h', g, d, tk', os⟩) :
    codeAny (model prog w) A (.call (.builtin "object.__setattr__") ⟨[.ref x, .str name tk, v], []⟩) R ⟨h, g, d, t, os⟩ := by
  have hxs : x ≠ h.objs.size := Nat.ne_of_lt (Heap.lt_size hx)
  refine W.osa_openX (s := ⟨h, g, d, t, os⟩) (od := none) SF X ⟨hx, rfl, rfl, trivial⟩ hp ht fun b => ?_
  obtain ⟨cd, hc, hd'⟩ := W.any_some hh
  have hcls : W.Looks (model prog w) h (classData C) cd := W.looks_clsIn X hc
  show wpAny _ _ (storeInOwnDict (.ref x) (.ref C) (.str name tk) name v b) _ _ _
  obtain ⟨nm, bs, mro, ns, qn, hd, sn, sb, ab, col, del⟩ := cd
  dsimp only at hd'
  subst hd'
  unfold storeInOwnDict ownDictForStores
  repeat (first | with_reducible refine store_in_new ?_ ?_ | with_reducible refine wpAny_loadPart_at hx ?_ | with_reducible refine hcls.at ?_ | wp_step)
  · exact ⟨_, #[], _, (Heap.get?_update_ne _ _ _ _ hxs.symm).trans (Heap.get?_push_at rfl rfl), rfl, fun e he => absurd he (by simp), fun _ => rfl⟩
  · intro h' tk' hn' hs
    have hx₁ : (h.push { cls := .type "dict", data := .dict #[] }).get? x = some { cls := .ref C, data := .fields fv } := Heap.get?_push_of_some _ hx
    refine hq h' tk' h.objs.size (fun b o hb ho => ?_) (Nat.le_refl _) hxs.symm ?_ hn'
    · exact (hs.2 b (Nat.ne_of_lt (Heap.lt_size ho))).trans ((Heap.get?_update_ne _ _ _ _ hb).trans (Heap.get?_push_of_some _ ho))
    · exact (hs.2 x hxs).trans (Heap.get?_update_self _ hx₁ rfl)
/-- a further store -/
theorem osa_more {K : W.Frag} {name : Str} {tk : Tok} {v : Value} {x dx : Addr} {fv : Array Value} {m0 : Str → Option Value} {nl : List Str} (SF : StoreFacts B bmB "object.__setattr__" "object")
    (X : K.In h) (hx : h.get? x = some { cls := .ref C, dict := some dx, data := .fields fv }) (hns : h.Ns1 dx m0) (hw : Within m0 nl) (hz : nl.length ≤ 1000) (hp : W.excOver K C bmB = true) (ht : W.takerIn K C name = some none) (hh : W.hasDictIn K C = true)
    (hq : ∀ h' tk', (∀ b o, b ≠ dx → h.get? b = some o → h'.get? b = some o) → h'.Ns1 dx (fun y => if y = name then some v else m0 y) → R (.ok (.ret .none)) ⟨h', g, d, tk', os⟩) :
    codeAny (model prog w) A (.call (.builtin "object.__setattr__") ⟨[.ref x, .str name tk, v], []⟩) R ⟨h, g, d, t, os⟩ := by
  obtain ⟨oD, esD, epD, hoD, hdD, _⟩ := hns.count hw
  refine W.osa_openX (s := ⟨h, g, d, t, os⟩) (od := some oD) SF X ⟨hx, rfl, rfl, hoD⟩ hp ht fun b => ?_
  obtain ⟨cd, hc, hd'⟩ := W.any_some hh
  have hcls : W.Looks (model prog w) h (classData C) cd := W.looks_clsIn X hc
  show wpAny _ _ (storeInOwnDict (.ref x) (.ref C) (.str name tk) name v b) _ _ _
  obtain ⟨nm, bs, mro, ns, qn, hd, sn, sb, ab, col, del⟩ := cd
  dsimp only at hd'
  subst hd'
  unfold storeInOwnDict ownDictForStores
  repeat (first | with_reducible refine OEX.store_in_old hns hw hz ?_ | with_reducible refine wpAny_loadPart_at hx ?_ | with_reducible refine hcls.at ?_ | wp_step)
  intro h' tk' hn' hs
  exact hq h' tk' (fun b o hb ho => (hs.2 b hb).trans ho) hn'
end
end LW
end
section
set_option Elab.async false
set_option linter.all false
set_option maxRecDepth 100000
set_option maxHeartbeats 4000000
/-! instances of own exception classes as values: made by position and by name, asked for their class and their fields -/
namespace LW
open PySem PySem.Spec PyProof.Rows L2 L2H
/-- what the written part says of an own exception class with an own __init__, over any of three built-ins -/
structure OwnG (K : PySem.W.Frag) (C : Addr) : Prop where
  base : ∃ B newId initId bmB, PySem.ExcBaseFacts B newId initId bmB ∧ PySem.StoreFacts B bmB "object.__setattr__" "object" ∧ PySem.W.excInitIn K C bmB newId = true ∧ PySem.W.excOver K C bmB = true
  sa : PySem.W.findIn K (.ref C) "__setattr__" = some (some (.builtin "object.__setattr__"))
  kC : PySem.W.keepIn K (.ref C) = true
  exc : ExcC K C
  xf : XfC K C
  ini : PySem.W.findIn K (.ref C) "__init__" = some (some (.ref (He.ma K C "__init__")))
  tyI : PySem.W.typeIn K (.ref (He.ma K C "__init__")) = some (.type "function")
theorem taker_of {K : PySem.W.Frag} {C : Addr} {f : Str} (h : PySem.W.findIn K (.ref C) f = some none) : PySem.W.takerIn K C f = some none := by
  unfold PySem.W.takerIn
  rw [h]
  rfl
section
variable {X : Cx} {pins : List (Addr × Obj)} {σ : L2.St} {H : Hp} {s : Shared} {a C dx : Addr} {f : Str} {y : V} {u : Value} {fs : List (Str × V)} {Q : Unit → Shared → Prop} {E : Value → Shared → Prop} {A : Around}
theorem st_new (T : OwnG X.K C) (I : Inv X pins σ H s) (e : H a = some (exo a C none)) (hno : PySem.W.findIn X.K (.ref C) f = some none) (ry : RelV y u)
    (h : ∀ dx s', H dx = none → dx ≠ a → Inv X pins σ (upd (upd H dx (exd dx [(f, y)])) a (exo a C (some dx))) s' → Q () s') : wpAny (model X.prog X.w) A (setAttr (.ref a) f u) Q E s := by
  obtain ⟨B, newId, initId, bmB, EB, SF, q1, q2⟩ := T.base
  obtain ⟨t1, ho⟩ := exo_at I.hok e
  obtain ⟨hp, g, d, t, os⟩ := s
  refine PySem.W.set_plain I.kIn (ox := { cls := .ref C, dict := none, data := .fields #[.ref t1, .none, .none, .none, .bool false, .none] }) (od := none) ⟨ho, rfl, rfl, trivial⟩ T.sa ?_
  refine osa_new SF I.kIn ho q2 (taker_of hno) T.xf.hdC (fun h' tk' dx k dn dne hx hn => ?_)
  have hnd : H dx = none := I.hok.fresh dn
  have nd : ∀ {b : Addr} {o : Obj}, hp.get? b = some o → b ≠ dx := fun {b o} q => Nat.ne_of_lt (Nat.lt_of_lt_of_le (Heap.lt_size q) dn)
  have na : ∀ {b : Addr}, H b = none → b ≠ a := fun {b} n z => by
    rw [z, e] at n
    cases n
  have Un1 : Un X.fs [] H (upd (upd H dx (exd dx [(f, y)])) a (exo a C (some dx))) hp h' := {
    keep := fun b o q n _ _ => k b o (na n) q
    slot := fun b o q n _ _ => ⟨o.slots, k b o (na n) q⟩
    free := fun b o q n _ => by rw [upd_ne (na n), upd_ne (nd q)]; exact n
    there := fun b o q _ => by
      by_cases hb : b = a
      · exact ⟨_, by rw [hb]; exact hx⟩
      · exact ⟨o, k b o hb q⟩
    tups := fun b xs q => by rw [upd_ne (at_ne e q exo_tup), upd_ne (ne_of_none q hnd)]; exact q
    frzs := fun b o v q => by rw [upd_ne (at_ne e q exo_frz), upd_ne (ne_of_none q hnd)]; exact q
    tbls := fun b ps q => ⟨#[], by rw [upd_ne (at_ne e q exo_tbl), upd_ne (ne_of_none q hnd), q]; simp⟩ }
  refine h dx _ hnd dne (I.un (t' := tk') Un1 fun b o q => ?_)
  by_cases hb : b = a
  · subst hb
    rw [upd_same] at q
    cases q
    exact exo_ok hx
  · rw [upd_ne hb] at q
    by_cases hd : b = dx
    · subst hd
      rw [upd_same] at q
      cases q
      exact exd_ok hn (relO_put (fs := []) ry fun g => True.intro)
    · rw [upd_ne hd] at q
      exact (I.hok b o q).stay (fun c v hc z => k c v (by
          rcases hc with hc | hc
          · rw [hc]
            exact hb
          · exact at_ne e hc exo_own) z)
        (fun c hc => by rw [upd_ne (at_ne e hc exo_own), upd_ne (ne_of_none hc hnd)]; exact hc) (fun c xs hc => by rw [upd_ne (at_ne e hc exo_tup), upd_ne (ne_of_none hc hnd)]; exact hc)
theorem st_old (T : OwnG X.K C) (I : Inv X pins σ H s) (e : H a = some (exo a C (some dx))) (ed : H dx = some (exd dx fs)) (hl : fs.length ≤ 900) (hno : PySem.W.findIn X.K (.ref C) f = some none) (ry : RelV y u)
    (h : ∀ s', Inv X pins σ (upd H dx (exd dx ((f, y) :: fs))) s' → Q () s') : wpAny (model X.prog X.w) A (setAttr (.ref a) f u) Q E s := by
  obtain ⟨B, newId, initId, bmB, EB, SF, q1, q2⟩ := T.base
  obtain ⟨t1, ho⟩ := exo_at I.hok e
  obtain ⟨mA, hns, rel⟩ := exd_at I.hok ed
  have hw := within_of rel
  obtain ⟨hp, g, d, t, os⟩ := s
  obtain ⟨oD, _, _, hoD, _, _⟩ := hns.count hw
  refine PySem.W.set_plain I.kIn (ox := { cls := .ref C, dict := some dx, data := .fields #[.ref t1, .none, .none, .none, .bool false, .none] }) (od := some oD) ⟨ho, rfl, rfl, hoD⟩ T.sa ?_
  refine osa_more SF I.kIn ho hns hw (by rw [List.length_map]; omega) q2 (taker_of hno) T.xf.hdC (fun h' tk' k hn => ?_)
  have hd : ∃ o, h'.get? dx = some o := by
    obtain ⟨o, _, _, e', _⟩ := hn
    exact ⟨o, e'⟩
  exact h _ (I.write (t' := tk') (x := dx) (e := dx) (o := exd dx ((f, y) :: fs)) (by rw [ed]; exact True.intro) (.inl rfl) k hd (exd_ok hn (relO_put ry rel)))
end
def tSto (K : PySem.W.Frag) (f : Str) (to te : TE) : TS := fun D σ H => te σ H fun y H1 => to σ H1 fun x H2 => ∃ a C : Addr, x = .ref a ∧ OwnG K C ∧ PySem.W.findIn K (.ref C) f = some none ∧
  ((H2 a = some (exo a C none) ∧ ∀ dx, H2 dx = none → dx ≠ a → D.nx σ (upd (upd H2 dx (exd dx [(f, y)])) a (exo a C (some dx)))) ∨
    ∃ (dx : Addr) (fs : List (Str × V)), H2 a = some (exo a C (some dx)) ∧ H2 dx = some (exd dx fs) ∧ fs.length ≤ 900 ∧ D.nx σ (upd H2 dx (exd dx ((f, y) :: fs))))
section
variable {X : Cx} {o e : Expr} {es : List Expr} {to te : TE} {ta tk : TA} {f x : Str} {p p' p1 p2 pos : Pos}
theorem ps_sto (ho : PE X o to) (he : PE X e te) (hs : swapsWith e (some (.Attribute o f p')) pos.line X.env = pure false := by rfl) : PS X (.Assign [.Attribute o f p'] e pos) (tSto X.K f to te) := by
  refine ⟨fun pins s σ H D I h => ?_⟩
  refine plainObj_wpAny_Assign_Attribute (thn (he.run pins s σ H _ I h) fun v s1 ⟨y, H1, I1, r1, q1⟩ => thn (ho.run pins s1 σ H1 _ I1 q1) fun u s2 ⟨x, H2, I2, r2, a, C, ex, T, hno, q⟩ => ?_) hs
  subst ex
  obtain rfl : u = Value.ref a := r2
  rcases q with ⟨ea, q⟩ | ⟨dx, fs, ea, ed, hl, q⟩
  · exact st_new T I2 ea hno r1 fun dx s' n ne J => ⟨σ, _, J, q dx n ne⟩
  · exact st_old T I2 ea ed hl hno r1 fun s' J => ⟨σ, _, J, q⟩
/-- C(..) as a value: what C's own __init__ keeps -/
def tMkV (C : Addr) (sp : Sp) (gV : List V → List V) (ta : TA) : TE := fun σ H Q => ta σ H fun vs H1 => vs.length ≤ 1000 ∧ ∀ a, H1 a = none → sp (.ref a :: gV vs) (upd H1 a (exo a C none))
  (fun v H2 => v = .non ∧ Q (.ref a) H2) (fun _ _ _ => False)
theorem pe_mkV {CX : CXT} {C fI : Addr} {k : Nat} {fd : FuncData} {ps : List Str} {sp : Sp} (T : OwnG X.K C) (iC : PySem.W.findIn X.K (.ref C) "__init__" = some (some (.ref fI))) (tI : PySem.W.typeIn X.K (.ref fI) = some (.type "function"))
    (F1 : FnOk X.prog X.w X.K X.mg X.base CX k fI fd ps sp) (hr : Room (k + 1) X.A) (hb : Binds X.K fd ps []) (hx : ∀ (s : Shared) (H : Hp) (e : Value) (s' : Shared), CX X.stack H s (fun _ _ _ => False) e s' → False) (hg : Gl X x) (hm : X.mg x = some (.ref C)) (ha : PA X (e :: es) ta)
    (hdb : (x == ("__debug__" : Str)) = false := by decide) (he : starEach (e :: es) X.env = (false, eval e X.env) :: starEach es X.env := by rfl) (hpl : (backTo pos (starEach es X.env)).any (·.1) = false := by rfl) :
    PE X (.Call (.Name x p) (e :: es) [] pos) (tMkV C sp (fun vs => vs) ta) := by
  refine ⟨fun pins s σ H Q I h => ?_⟩
  obtain ⟨B, newId, initId, bmB, EB, SF, q1, q2⟩ := T.base
  refine wpAny_Call_Name_kw (ld_glob I hg hm ?_ hdb)
  refine PySem.W.callWith_K (h₀ := X.base) I.ok.mod.kin T.kC (thn (ha.run pos pins s σ H _ I h) fun us s1 ⟨vs, H1, I1, r1, hz, q1⟩ => ⟨I1.kIn, ?_⟩) he hpl
  show wpAny _ _ (call (.ref C) us) _ _ _
  obtain ⟨nm, N', qn, bs, bm, hdct, sn, sub, ab, col, dd, k0, k1, k2, k3, k5, hC, hT⟩ := PySem.W.excInit_of I1.kIn (by assumption)
  obtain ⟨hp, g, dr, tk, os⟩ := s1
  have hsz : hp.objs.size ≤ hp.objs.size + 1 := Nat.le_succ _
  have hn : H1 (hp.objs.size + 1) = none := I1.hok.fresh hsz
  have hq := q1 (hp.objs.size + 1) hn
  have kk : ∀ b o, hp.get? b = some o → ((hp.push (PySem.W.kdv_tup us)).push (PySem.HandSPX.excO C hp.objs.size)).get? b = some o := fun b o e => Heap.get?_push_of_some _ (Heap.get?_push_of_some _ e)
  have hget : ((hp.push (PySem.W.kdv_tup us)).push (PySem.HandSPX.excO C hp.objs.size)).get? (hp.objs.size + 1) = some (PySem.HandSPX.excO C hp.objs.size) := by heap_get
  have I2 : Inv X pins σ (upd H1 (hp.objs.size + 1) (exo (hp.objs.size + 1) C none)) ⟨(hp.push (PySem.W.kdv_tup us)).push (PySem.HandSPX.excO C hp.objs.size), g, dr, tk, os⟩ :=
    I1.laid (t' := tk) (a := hp.objs.size + 1) (o := exo (hp.objs.size + 1) C none) (h' := (hp.push (PySem.W.kdv_tup us)).push (PySem.HandSPX.excO C hp.objs.size)) kk hsz (exo_ok hget)
  have r2 : Vals (V.ref (hp.objs.size + 1) :: vs) (Value.ref (hp.objs.size + 1) :: us) := .cons rfl r1
  have hl : (Value.ref (hp.objs.size + 1) :: us ++ []).length = ps.length := by
    have e := r2.length
    rw [F1.len _ _ _ _ hq] at e
    rw [List.append_nil]
    exact e.symm
  have hus : us.length ≤ sizeLine := by
    rw [← Paired.length r1, sizeLine_eq]
    omega
  have b2 := hb _ (Value.ref (hp.objs.size + 1) :: us) I2.kIn hl
  rw [List.append_nil] at b2
  refine wpAny_call (PySem.HandSPX.call_own EB hT hC (PySem.W.looks_findIn I1.kIn iC) (fun self => PySem.W.bind_fn I1.kIn self tI) hus
    (codeAny_mono (F1.run _ X.stack _ _ ⟨Value.ref (hp.objs.size + 1) :: us, []⟩ (Value.ref (hp.objs.size + 1) :: us) _ _ (fun _ _ _ => False) (hr.make C us []) (I2.env0.make C us []) b2 r2 hq) fun r s' hq' => ?_))
  cases r with
  | error er => exact (hx _ _ _ _ hq').elim
  | ok fl =>
    cases fl with
    | ret u =>
      obtain ⟨v, H3, I3, rv, ev, q3⟩ := I2.after hq'
      subst ev
      exact ⟨rv, .ref (hp.objs.size + 1), H3, I3, rfl, q3⟩
    | next => exact False.elim hq'
    | brk => exact False.elim hq'
    | cont => exact False.elim hq'
theorem pe_mkK {CX : CXT} {C fI : Addr} {k : Nat} {fd : FuncData} {ps ks : List Str} {sp : Sp} {kws : List Keyword} {gW : List Value → List Value} {gV : List V → List V} (T : OwnG X.K C) (iC : PySem.W.findIn X.K (.ref C) "__init__" = some (some (.ref fI))) (tI : PySem.W.typeIn X.K (.ref fI) = some (.type "function"))
    (F1 : FnOk X.prog X.w X.K X.mg X.base CX k fI fd ps sp) (hr : Room (k + 1) X.A) (hb : KBn X.K fd ps 1 ks (fun us ws => us ++ gW ws) (fun vs zs => vs ++ gV zs)) (hx : ∀ (s : Shared) (H : Hp) (e : Value) (s' : Shared), CX X.stack H s (fun _ _ _ => False) e s' → False) (hg : Gl X x) (hm : X.mg x = some (.ref C)) (hkw : PK X kws tk)
    (hall : (backToKw pos (keywordEach kws X.env)).all (·.1.isSome) = true := by rfl) (hks : (backToKw pos (keywordEach kws X.env)).filterMap (·.1) = ks := by rfl)
    (hdb : (x == ("__debug__" : Str)) = false := by decide)
    (hpl : ((backTo pos (starEach [] X.env)).any (·.1) || (backToKw pos (keywordEach kws X.env)).any (·.1.isNone)) = false := by rfl) :
    PE X (.Call (.Name x p) [] kws pos) (tMkV C sp gV fun σ H Q => tk σ H fun vs H1 => vs.length = ks.length ∧ Q vs H1) := by
  refine ⟨fun pins s σ H Q I h => ?_⟩
  obtain ⟨B, newId, initId, bmB, EB, SF, q1, q2⟩ := T.base
  refine wpAny_Call_Name_kw (ld_glob I hg hm ?_ hdb)
  refine PySem.W.callWith_KW0 (h₀ := X.base) I.ok.mod.kin T.kC hall ?_ hpl
  refine thn (hkw.run pos pins s σ H _ I h) fun us s1 ⟨vs, H1, I1, r1, l2, hz, q1⟩ => ⟨I1.kIn, ?_⟩
  rw [hks]
  show wpAny _ _ (call (.ref C) [] (ks.zip us)) _ _ _
  obtain ⟨nm, N', qn, bs, bm, hdct, sn, sub, ab, col, dd, k0, k1, k2, k3, k5, hC, hT⟩ := PySem.W.excInit_of I1.kIn (by assumption)
  obtain ⟨hp, g, dr, tk, os⟩ := s1
  have hsz : hp.objs.size ≤ hp.objs.size + 1 := Nat.le_succ _
  have hn : H1 (hp.objs.size + 1) = none := I1.hok.fresh hsz
  have hq := q1 (hp.objs.size + 1) hn
  have kk : ∀ b o, hp.get? b = some o → ((hp.push (PySem.W.kdv_tup [])).push (PySem.HandSPX.excO C hp.objs.size)).get? b = some o := fun b o e => Heap.get?_push_of_some _ (Heap.get?_push_of_some _ e)
  have hget : ((hp.push (PySem.W.kdv_tup [])).push (PySem.HandSPX.excO C hp.objs.size)).get? (hp.objs.size + 1) = some (PySem.HandSPX.excO C hp.objs.size) := by heap_get
  have I2 : Inv X pins σ (upd H1 (hp.objs.size + 1) (exo (hp.objs.size + 1) C none)) ⟨(hp.push (PySem.W.kdv_tup [])).push (PySem.HandSPX.excO C hp.objs.size), g, dr, tk, os⟩ :=
    I1.laid (t' := tk) (a := hp.objs.size + 1) (o := exo (hp.objs.size + 1) C none) (h' := (hp.push (PySem.W.kdv_tup [])).push (PySem.HandSPX.excO C hp.objs.size)) kk hsz (exo_ok hget)
  have r0 : Vals [V.ref (hp.objs.size + 1)] [Value.ref (hp.objs.size + 1)] := .cons rfl .nil
  have r2 := hb.rel r0 r1
  have b2 := hb.to ⟨(hp.push (PySem.W.kdv_tup [])).push (PySem.HandSPX.excO C hp.objs.size), g, dr, tk, os⟩ [Value.ref (hp.objs.size + 1)] us I2.kIn rfl (r1.length.symm.trans l2)
  refine wpAny_call (call_kw EB hT hC (PySem.W.looks_findIn I1.kIn iC) (fun self => PySem.W.bind_fn I1.kIn self tI)
    (codeAny_mono (F1.run _ X.stack _ _ ⟨[Value.ref (hp.objs.size + 1)], ks.zip us⟩ ([Value.ref (hp.objs.size + 1)] ++ gW us) _ _ (fun _ _ _ => False) (hr.make C [] (ks.zip us)) (I2.env0.make C [] (ks.zip us)) b2 r2 hq) fun r s' hq' => ?_))
  cases r with
  | error er => exact (hx _ _ _ _ hq').elim
  | ok fl =>
    cases fl with
    | ret u =>
      obtain ⟨v, H3, I3, rv, ev, q3⟩ := I2.after hq'
      subst ev
      exact ⟨rv, .ref (hp.objs.size + 1), H3, I3, rfl, q3⟩
    | next => exact False.elim hq'
    | brk => exact False.elim hq'
    | cont => exact False.elim hq'
/-- x is an exception of the class C with these fields -/
def IsX (K : PySem.W.Frag) (H : Hp) (x : V) (C : Addr) (fs : List (Str × V)) : Prop := ∃ a d, x = .ref a ∧ OwnG K C ∧ H a = some (exo a C (some d)) ∧ H d = some (exd d fs)
def rIsV (K : PySem.W.Frag) : List V → Hp → VK → Prop := fun xs H Q => ∃ (x c : V) (C : Addr) (fs : List (Str × V)) (cv : Value) (b : Bool), xs = [x, c] ∧ IsX K H x C fs ∧ ClsV c cv ∧ PySem.W.kitOne K (.ref C) cv = some b ∧ Q (.bl b) H
theorem call_isV : CallR X (.builtin "isinstance") (rIsV X.K) := by
  intro pins s σ H xs us Q I r h
  obtain ⟨x, c, C, fs, cv, b, rfl, ⟨a, d, rfl, T, ea, ed⟩, hcv, e, q⟩ := h
  obtain ⟨u1, u2, rfl, r1, r2⟩ := vals2 r
  cases r1
  have ec := hcv.eq r2
  subst ec
  obtain ⟨t1, ho⟩ := exo_at I.hok ea
  obtain ⟨mA, hns, rel⟩ := exd_at I.hok ed
  obtain ⟨oD, hoD, hl⟩ := lookIn_ns hns
  have J : ∃ od, PySem.W.InstAt s.heap a { cls := .ref C, dict := some d, data := .fields #[.ref t1, .none, .none, .none, .bool false, .none] } C od := ⟨some oD, ho, rfl, rfl, hoD⟩
  have O := T.exc
  exact PySem.W.kia_one (PySem.W.kitx_exc O.hg O.hk O.hs O.hd O.ha O.hn O.ht O.hm) I.kIn J e (fun z => nomatch z) fun tk => ⟨.bl b, H, I.kept (t' := tk) fun _ _ z => z, rfl, q⟩
def tVF (K : PySem.W.Frag) (f : Str) (te : TE) : TE := fun σ H Q => te σ H fun x H1 => ∃ (C : Addr) (fs : List (Str × V)) (v : V), IsX K H1 x C fs ∧ PySem.W.findIn K (.ref C) f = some none ∧ fs.lookup f = some v ∧ Q v H1
theorem pe_vF {n : Str} (he : PE X e te) (hb : attributeBase e n X.env (eval e X.env) = eval e X.env := by rfl) : PE X (.Attribute e n pos) (tVF X.K n te) := by
  refine ⟨fun pins s σ H Q I h => ?_⟩
  refine attr_of hb (thn (he.run pins s σ H _ I h) fun u s1 hh => ?_)
  obtain ⟨x, H1, I1, rx, C, fs, v, ⟨a, d, rfl, T, ea, ed⟩, hno, l, q⟩ := hh
  obtain rfl : u = Value.ref a := rx
  obtain ⟨t1, ho⟩ := exo_at I1.hok ea
  obtain ⟨mA, hns, rel⟩ := exd_at I1.hok ed
  obtain ⟨oD, hoD, hl⟩ := lookIn_ns hns
  obtain ⟨u, hu, ru⟩ := RelO.some_of (v := v) (o := mA n) (by rw [← l]; exact rel n)
  have J : PySem.W.InstAt s1.heap a { cls := .ref C, dict := some d, data := .fields #[.ref t1, .none, .none, .none, .bool false, .none] } C (some oD) := ⟨ho, rfl, rfl, hoD⟩
  exact PySem.HandSPX.exc_get I1.kIn J T.xf.ga T.xf.gg T.xf.exC (PySem.W.findObj_own T.xf.hdC hno rfl (by rw [hl, hu])) (handed_of ru) ⟨v, H1, I1.tok _, ru, q⟩
end
end LW
end
section
set_option Elab.async false
set_option linter.all false
set_option maxRecDepth 100000
set_option maxHeartbeats 4000000
/-! classes of the package, called for their instances -/
namespace LW
open PySem PySem.Spec PyProof.Rows L2 L2H U
/-- the class x, its own fields fs, called with these names -/
structure HasC (P : Program) (w : World) (K : PySem.W.Frag) (mg : Str → Option Value) (base : Heap) (x : Str) (fs ks : List Str) (gW : List Value → List Value) (gV : List V → List V) : Prop where
  g : mg x = some (.ref (He.ga K x))
  own : OwnG K (He.ga K x)
  fn : ∃ fd, FnOk P w K mg base (L2N.CX P w) 1 (He.ma K (He.ga K x) "__init__") fd ("self" :: fs) (spI (He.ga K x) fs) ∧ Binds K fd ("self" :: fs) [] ∧ KBn K fd ("self" :: fs) 1 ks (fun us ws => us ++ gW ws) (fun vs zs => vs ++ gV zs)
/-- C(..), its instance told -/
def tNew (C : Addr) (fs : List Str) (gV : List V → List V) (ta : TA) : TE := fun σ H Q => ta σ H fun zs H1 => zs.length = fs.length ∧ (gV zs).length = fs.length ∧ ∀ a d, H1 a = none → H1 d = none → d ≠ a → Q (.ref a) (upd (upd H1 d (exd d (fs.zip (gV zs)).reverse)) a (exo a C (some d)))
theorem new_read {C : Addr} {fs : List Str} {gV : List V → List V} {ta : TA} {σ : L2.St} {H : Hp} {Q : VK} (hf : fs.length ≤ 900) (mono : MonoA ta) (h : tNew C fs gV ta σ H Q) : tMkV C (spI C fs) gV ta σ H Q := by
  refine mono _ _ _ _ (fun zs H1 h => ?_) h
  obtain ⟨hl, hl2, q⟩ := h
  refine ⟨by omega, fun a na => ⟨a, gV zs, rfl, hl2, upd_same, fun d H' nd da e => ⟨rfl, ?_⟩⟩⟩
  have nd1 : H1 d = none := by rw [upd_ne da] at nd; exact nd
  have eh : H' = upd (upd H1 d (exd d (fs.zip (gV zs)).reverse)) a (exo a C (some d)) := by
    rw [e]
    funext b
    by_cases ha : b = a
    · rw [ha, upd_same, upd_same]
    · rw [upd_ne ha, upd_ne ha]
      by_cases hd : b = d
      · rw [hd, upd_same, upd_same]
      · rw [upd_ne hd, upd_ne hd, upd_ne ha]
  rw [eh]
  exact q a d na nd1 da
section
variable {X : Cx} {n : Nat} {x : Str} {fs ks : List Str} {gW : List Value → List Value} {gV : List V → List V} {e : Expr} {es : List Expr} {kws : List Keyword} {ta tk : TA} {p pos : Pos}
theorem pe_new (h : HasC X.prog X.w X.K X.mg X.base x fs ks gW gV) (hr : Room n X.A) (hk : 2 ≤ n) (hg : Gl X x) (hf : fs.length ≤ 900) (mono : MonoA ta) (ha : PA X (e :: es) ta)
    (hdb : (x == ("__debug__" : Str)) = false := by decide) (he : starEach (e :: es) X.env = (false, eval e X.env) :: starEach es X.env := by rfl) (hpl : (backTo pos (starEach es X.env)).any (·.1) = false := by rfl) :
    PE X (.Call (.Name x p) (e :: es) [] pos) (tNew (He.ga X.K x) fs (fun vs => vs) ta) := by
  obtain ⟨g, O, fd, F, B, N⟩ := h
  have h := pe_mkV (p := p) (pos := pos) O O.ini O.tyI F (hr.mono hk) B noCX hg g ha hdb he hpl
  exact ⟨fun pins s σ H Q I q => h.run pins s σ H Q I (new_read hf mono q)⟩
theorem mono_len {m : Nat} (h : MonoA tk) : MonoA (fun σ H Q => tk σ H fun vs H1 => vs.length = m ∧ Q vs H1) := fun σ H P R i z => h σ H _ _ (fun vs H1 q => ⟨q.1, i _ _ q.2⟩) z
theorem pe_newK (h : HasC X.prog X.w X.K X.mg X.base x fs ks gW gV) (hr : Room n X.A) (hk : 2 ≤ n) (hg : Gl X x) (hf : fs.length ≤ 900) (hfk : fs.length = ks.length) (mono : MonoA tk) (hkw : PK X kws tk)
    (hall : (backToKw pos (keywordEach kws X.env)).all (·.1.isSome) = true := by rfl) (hks : (backToKw pos (keywordEach kws X.env)).filterMap (·.1) = ks := by rfl)
    (hdb : (x == ("__debug__" : Str)) = false := by decide)
    (hpl : ((backTo pos (starEach [] X.env)).any (·.1) || (backToKw pos (keywordEach kws X.env)).any (·.1.isNone)) = false := by rfl) :
    PE X (.Call (.Name x p) [] kws pos) (tNew (He.ga X.K x) fs gV tk) := by
  obtain ⟨g, O, fd, F, B, N⟩ := h
  have h := pe_mkK (p := p) (pos := pos) O O.ini O.tyI F (hr.mono hk) N noCX hg g hkw hall hks hdb hpl
  refine ⟨fun pins s σ H Q I q => h.run pins s σ H Q I (new_read hf (mono_len mono) (mono _ _ _ _ (fun zs H1 z => ⟨by rw [← hfk]; exact z.1, z⟩) q))⟩
end
section
variable {P : Program} {w : World} {K : PySem.W.Frag} {mg : Str → Option Value} {base : Heap} {f C : Addr} {fd : FuncData} {x1 q1 : Str} {ar : Arguments} {sc : Scope} {a b : Str}
theorem init1 {p1 p2 p3 p4 : Pos} (F : FunD K x1 q1 ar [.Assign [.Attribute (.Name "self" p1) a p2] (.Name a p3) p4] sc [] [] f fd) (S : FnScope ["self", a] ["self", a] sc) (O : OwnG K C) (no : PySem.W.findIn K (.ref C) a = some none)
    (h1 : sc.names.lookup ("self" : Str) = some .local) (h2 : sc.names.lookup a = some .local) (hd : (a == ("__debug__" : Str)) = false) (hcd : (a == ("__classdict__" : Str)) = false)
    (hs : ∀ (cdv : Value) (L : Addr), swapsWith (.Name a p3) (some (.Attribute (.Name "self" p1) a p2)) p4.line (envOfC q1 sc L f cdv) = pure false) : FnOk P w K mg base (L2N.CX P w) 1 f fd ["self", a] (spI C [a]) := by
  refine F.ok S (fun vs H Q E h => ?_) (fun cdv A outer s H vs Q E hr h => ?_)
  · obtain ⟨a, ws, rfl, hl, _⟩ := h
    show ws.length + 1 = 2
    have e : ws.length = 1 := hl
    omega
  · obtain ⟨o, ws, rfl, hl, ho, q⟩ := h
    match ws, hl with
    | [v], _ =>
      refine ⟨_, pss_one (ps_sto (pe_var (i := 0) rfl (.inl h1)) (pe_var (i := 1) rfl (.inl h2) hd hcd) (hs cdv _)), ?_⟩
      exact ⟨v, rfl, .ref o, rfl, o, C, rfl, O, no, .inl ⟨ho, fun d nd da => q d _ nd da rfl⟩⟩
theorem init2 {p1 p2 p3 p4 r1 r2 r3 r4 : Pos} (F : FunD K x1 q1 ar [.Assign [.Attribute (.Name "self" p1) a p2] (.Name a p3) p4, .Assign [.Attribute (.Name "self" r1) b r2] (.Name b r3) r4] sc [] [] f fd) (S : FnScope ["self", a, b] ["self", a, b] sc) (O : OwnG K C) (no : PySem.W.findIn K (.ref C) a = some none) (no2 : PySem.W.findIn K (.ref C) b = some none)
    (h1 : sc.names.lookup ("self" : Str) = some .local) (h2 : sc.names.lookup a = some .local) (h3 : sc.names.lookup b = some .local) (hd : (a == ("__debug__" : Str)) = false) (hcd : (a == ("__classdict__" : Str)) = false) (hd2 : (b == ("__debug__" : Str)) = false) (hcd2 : (b == ("__classdict__" : Str)) = false)
    (hs : ∀ (cdv : Value) (L : Addr), swapsWith (.Name a p3) (some (.Attribute (.Name "self" p1) a p2)) p4.line (envOfC q1 sc L f cdv) = pure false) (hs2 : ∀ (cdv : Value) (L : Addr), swapsWith (.Name b r3) (some (.Attribute (.Name "self" r1) b r2)) r4.line (envOfC q1 sc L f cdv) = pure false) : FnOk P w K mg base (L2N.CX P w) 1 f fd ["self", a, b] (spI C [a, b]) := by
  refine F.ok S (fun vs H Q E h => ?_) (fun cdv A outer s H vs Q E hr h => ?_)
  · obtain ⟨a, ws, rfl, hl, _⟩ := h
    show ws.length + 1 = 3
    have e : ws.length = 2 := hl
    omega
  · obtain ⟨o, ws, rfl, hl, ho, q⟩ := h
    match ws, hl with
    | [v, u], _ =>
      refine ⟨_, pss_cons (ps_sto (pe_var (i := 0) rfl (.inl h1)) (pe_var (i := 1) rfl (.inl h2) hd hcd) (hs cdv _)) (pss_one (ps_sto (pe_var (i := 0) rfl (.inl h1)) (pe_var (i := 2) rfl (.inl h3) hd2 hcd2) (hs2 cdv _))), ?_⟩
      refine ⟨v, rfl, .ref o, rfl, o, C, rfl, O, no, .inl ⟨ho, fun d nd da => ?_⟩⟩
      refine ⟨u, rfl, .ref o, rfl, o, C, rfl, O, no2, .inr ⟨d, [(a, v)], upd_same, by rw [upd_ne da]; exact upd_same, (by show 1 ≤ 900; decide), ?_⟩⟩
      refine q d _ nd da ?_
      funext c
      by_cases hc : c = d
      · rw [hc, upd_same, upd_ne da, upd_same] <;> rfl
      · rw [upd_ne hc]
        by_cases ho2 : c = o
        · rw [ho2, upd_same, upd_same]
        · rw [upd_ne ho2, upd_ne ho2, upd_ne hc, upd_ne hc]
/-- called by names, behind one argument -/
theorem kbn1_of {x qual : Str} {params : Arguments} {body : List Stmt} {scope : Scope} {ps ks : List Str} {gW : List Value → List Value} {gV : List V → List V} (F : FunD K x qual params body scope [] [] f fd)
    (h : ∀ (kV doc pm : Value) (an : Option Addr) (cdv ct : Value) (u : Value) (ws : List Value), ws.length = ks.length → bindArgs (PySem.W.fnOf x qual params body scope .none kV doc pm an cdv ct) ⟨[u], ks.zip ws⟩ = pure (ps.zip (u :: gW ws)))
    (hr : ∀ {zs : List V} {ws : List Value}, Vals zs ws → Vals (gV zs) (gW ws)) :
    KBn K fd ps 1 ks (fun us ws => us ++ gW ws) (fun vs zs => vs ++ gV zs) := by
  obtain ⟨oc, od, dV, kV, doc, pm, an, cdv, ct, osl, rfl, lk, hcd, hD, hK⟩ := F.ex
  rcases hD with ⟨_, rfl⟩ | ⟨e, _⟩
  · refine ⟨fun s us ws _ h1 h2 => ?_, fun r1 r2 => r1.append (hr r2)⟩
    match us, h1 with
    | [u], _ => exact .of_eq (h kV doc pm an cdv ct u ws h2)
  · exact absurd rfl e
end
end LW
end
section
set_option Elab.async false
set_option linter.all false
set_option maxRecDepth 100000
set_option maxHeartbeats 4000000
/-! what the Bools of LE2 say -/
namespace LW
open PySem PySem.Spec PyProof.Rows L2 L2H
variable {K : PySem.W.Frag}
theorem ns_none {ns : Addr} (h : nsB K ns = true) {n : Str} (hn : n ∈ bare) : PySem.W.nsIn K ns n = some none := by
  unfold nsB at h
  unfold PySem.W.nsIn
  split at h
  · rename_i es _ _ ho
    rw [ho]
    have h := List.all_eq_true.mp h
    have f : es.toList.find? (·.key.isStr n) = none := by
      rw [List.find?_eq_none]
      intro e he hk
      have := (Bool.and_eq_true_iff.mp (h e he)).2
      have := List.all_eq_true.mp this n hn
      rw [hk] at this
      exact absurd this (by decide)
    have g : es.toList.any (·.refKey) = false := by
      rw [List.any_eq_false]
      intro e he hk
      have := (Bool.and_eq_true_iff.mp (h e he)).1
      rw [hk] at this
      exact absurd this (by decide)
    show (match es.toList.find? (·.key.isStr n) with | some e => some (some e.val) | none => if es.toList.any (·.refKey) then none else some none) = some none
    rw [f]
    show (if es.toList.any (·.refKey) = true then none else some none) = some none
    rw [g] <;> rfl
  · cases h
structure Shape (K : PySem.W.Frag) (C : Addr) (over : List Value) (b : Bs) : Prop where
  ex : ∃ dd cd k0 k1 k2 k3 k5, K.lookup C = some ⟨.type "type", dd, .cls cd, #[k0, k1, k2, k3, some (.builtin (newOf b)), k5]⟩ ∧ cd.mro = .ref C :: (over ++ bmOf b) ∧ cd.hasDict = true ∧ cd.hasDel = false ∧ nsB K cd.ns = true
theorem shape_of {C : Addr} {over : List Value} {b : Bs} (h : shapeB K C over b = true) : Shape K C over b := by
  unfold shapeB at h
  split at h
  · rename_i dd cd sl ho
    simp only [Bool.and_eq_true, Bool.not_eq_true', decide_eq_true_eq] at h
    obtain ⟨h1, h2, h3, h4, h5⟩ := h
    split at h1
    · rename_i k0 k1 k2 k3 n k5 hs
      have e : n = newOf b := beq_iff_eq.mp h1
      have hs' : sl = #[k0, k1, k2, k3, some (.builtin (newOf b)), k5] := by
        rw [← e]
        have := congrArg List.toArray hs
        simpa using this
      rw [hs'] at ho
      exact ⟨dd, cd, k0, k1, k2, k3, k5, ho, h4, h2, h3, h5⟩
    · cases h1
  · cases h
/-- over is nothing, or the one class R that binds none of the names -/
def OverOk (K : PySem.W.Frag) (over : List Value) : Prop := over = [] ∨ ∃ R : Addr, over = [.ref R] ∧ baseB K R = true
theorem along_over {over : List Value} (h : OverOk K over) {n : Str} (hn : n ∈ bare) (r : List Value) : PySem.W.alongIn K n (over ++ r) = PySem.W.alongIn K n r := by
  rcases h with rfl | ⟨R, rfl, hb⟩
  · rfl
  · unfold baseB at hb
    split at hb
    · rename_i dd cd sl ho
      have e : PySem.W.ownIn K n (.ref R) = some none := by
        unfold PySem.W.ownIn
        dsimp only
        rw [ho]
        exact ns_none hb hn
      show PySem.W.alongIn K n (.ref R :: r) = _
      conv => lhs; unfold PySem.W.alongIn
      rw [e]
    · cases hb
theorem find_of {C : Addr} {over : List Value} {b : Bs} (S : Shape K C over b) (hov : OverOk K over) {n : Str} (hn : n ∈ bare) : PySem.W.findIn K (.ref C) n = PySem.W.alongIn K n (bmOf b) := by
  obtain ⟨dd, cd, k0, k1, k2, k3, k5, ho, hm, hd, hl, hns⟩ := S.ex
  unfold PySem.W.findIn
  dsimp only
  rw [ho]
  show PySem.W.alongIn K n cd.mro = _
  rw [hm]
  have e : PySem.W.ownIn K n (.ref C) = some none := by
    unfold PySem.W.ownIn
    dsimp only
    rw [ho]
    exact ns_none hns hn
  conv => lhs; unfold PySem.W.alongIn
  rw [e]
  exact along_over hov hn _
theorem al_setattr : ∀ b : Bs, PySem.W.alongIn K "__setattr__" (bmOf b) = some (some (.builtin "object.__setattr__")) := fun b => by cases b <;> kernel_rfl
theorem al_getattribute : ∀ b : Bs, PySem.W.alongIn K "__getattribute__" (bmOf b) = some (some (.builtin "BaseException.__getattribute__")) := fun b => by cases b <;> kernel_rfl
theorem al_getattr : ∀ b : Bs, PySem.W.alongIn K "__getattr__" (bmOf b) = some none := fun b => by cases b <;> kernel_rfl
theorem al_class : ∀ b : Bs, PySem.W.alongIn K "__class__" (bmOf b) = some (some (.builtin "object.__class__")) := fun b => by cases b <;> kernel_rfl
def flds : List Str := ["at", "name", "line", "kind", "what", "wall", "count"]
theorem al_fld : ∀ b : Bs, ∀ n ∈ flds, PySem.W.alongIn K n (bmOf b) = some none := fun b n hn => by
  simp only [flds, List.mem_cons, List.not_mem_nil, or_false] at hn
  rcases hn with rfl | rfl | rfl | rfl | rfl | rfl | rfl <;> cases b <;> kernel_rfl
theorem fld_bare : ∀ n ∈ flds, n ∈ bare := by
  intro n hn
  simp only [flds, List.mem_cons, List.not_mem_nil, or_false] at hn
  unfold bare
  simp only [List.mem_cons, List.not_mem_nil, or_false]
  rcases hn with rfl | rfl | rfl | rfl | rfl | rfl | rfl <;> simp
theorem over_tail {over : List Value} (h : OverOk K over) (b : Bs) : PySem.W.excTail (bmOf b) (over ++ bmOf b) = true := by
  rcases h with rfl | ⟨R, rfl, _⟩
  · cases b <;> decide +kernel
  · show PySem.W.excTail (bmOf b) (bmOf b) = true
    cases b <;> decide +kernel
theorem over_cont {over : List Value} (h : OverOk K over) (b : Bs) (T : String) (hT : (bmOf b).contains (.type T) = true) (C : Addr) : (Value.ref C :: (over ++ bmOf b)).contains (.type T) = true := by
  rcases h with rfl | ⟨R, rfl, _⟩
  · rw [List.contains_cons]
    show (_ || (bmOf b).contains (.type T)) = true
    rw [hT, Bool.or_true]
  · rw [List.contains_cons]
    show (_ || (Value.ref R :: bmOf b).contains (.type T)) = true
    rw [List.contains_cons, hT, Bool.or_true, Bool.or_true]
theorem base_ok (b : Bs) : ∃ B newId initId bmB, PySem.ExcBaseFacts B newId initId bmB ∧ PySem.StoreFacts B bmB "object.__setattr__" "object" ∧ bmB = bmOf b ∧ newId = newOf b := by
  cases b with
  | v => exact ⟨_, _, _, _, PySem.F.excBase_ValueError, PySem.F.store_ValueError, rfl, rfl⟩
  | l => exact ⟨_, _, _, _, PySem.F.excBase_LookupError, PySem.F.store_LookupError, rfl, rfl⟩
  | r => exact ⟨_, _, _, _, PySem.F.excBase_RuntimeError, PySem.F.store_RuntimeError, rfl, rfl⟩
theorem mem_bare (n : Str) (h : bare.contains n = true := by decide +kernel) : n ∈ bare := by simpa using h
theorem own_ok {c : Str} {refd : Bool} {b : Bs} (h : ownB K c refd b = true) (hR : baseB K (He.ga K "Refused") = true) : OwnG K (He.ga K c) ∧ ∀ n ∈ flds, PySem.W.findIn K (.ref (He.ga K c)) n = some none := by
  unfold ownB at h
  simp only [Bool.and_eq_true] at h
  obtain ⟨h1, h2, h3⟩ := h
  have S := shape_of h1
  have hov : OverOk K (if refd = true then [.ref (He.ga K "Refused")] else []) := by
    cases refd with
    | true => exact .inr ⟨_, rfl, hR⟩
    | false => exact .inl rfl
  generalize (if refd = true then [Value.ref (He.ga K "Refused")] else []) = over at *
  generalize hC : He.ga K c = C at *
  obtain ⟨dd, cd, k0, k1, k2, k3, k5, ho, hm, hd, hl, hns⟩ := S.ex
  have hcls : PySem.W.clsIn K C = some cd := by unfold PySem.W.clsIn; rw [ho]
  have hdict : PySem.W.hasDictIn K C = true := by unfold PySem.W.hasDictIn; rw [hcls]; exact hd
  have hty : PySem.W.typeIn K (.ref C) = some (.type "type") := by
    unfold PySem.W.typeIn
    dsimp only
    rw [ho] <;> rfl
  have hkeep : PySem.W.keepIn K (.ref C) = true := by
    unfold PySem.W.keepIn
    dsimp only
    rw [ho]
    show (PySem.W.specialIn K (.ref C) "__call__" == some (some (.builtin "type.__call__"))) = true
    unfold PySem.W.specialIn
    rw [hty]
    show (PySem.W.findIn K (.type "type") "__call__" == some (some (.builtin "type.__call__"))) = true
    kernel_rfl
  have hmro : ∀ T : String, (bmOf b).contains (.type T) = true → PySem.W.mroIn K C (.type T) = some true := fun T hT => by
    unfold PySem.W.mroIn
    rw [hcls]
    show (if cd.mro.isEmpty = true then none else some (cd.mro.contains (.type T))) = some true
    rw [hm, over_cont hov b T hT C] <;> rfl
  have hbe : PySem.W.subIn K (.ref C) (.type "BaseException") = some true := hmro "BaseException" (by cases b <;> decide +kernel)
  have hob : PySem.W.mroIn K C (.type "object") = some true := hmro "object" (by cases b <;> decide +kernel)
  have f1 := (find_of S hov (mem_bare "__setattr__")).trans (al_setattr b)
  have f2 := (find_of S hov (mem_bare "__getattribute__")).trans (al_getattribute b)
  have f3 := (find_of S hov (mem_bare "__getattr__")).trans (al_getattr b)
  have f4 := (find_of S hov (mem_bare "__class__")).trans (al_class b)
  have s1 : PySem.W.specialIn K (.builtin "object.__class__") "__get__" = some (some (.builtin "getset_descriptor.__get__")) := by kernel_rfl
  have s2 : PySem.W.takesIn K (.builtin "object.__class__") = some true := by kernel_rfl
  refine ⟨⟨?_, f1, hkeep, ⟨f2, f3, hbe, hdict, f4, s1, s2, hob⟩, ⟨f2, f3, hbe, hdict⟩, He.eqO_ok h2, LE.eqV_ok h3⟩, fun n hn => (find_of S hov (fld_bare n hn)).trans (al_fld b n hn)⟩
  obtain ⟨B, newId, initId, bmB, eb, sf, rfl, rfl⟩ := base_ok b
  refine ⟨B, _, initId, _, eb, sf, ?_, ?_⟩
  · obtain ⟨nm, bs, mro, ns, qn, hdct, sn, sub, ab, col, hdel⟩ := cd
    dsimp only at hm hl
    subst hm hl
    unfold PySem.W.excInitIn
    rw [ho]
    show ((C == C && newOf b == newOf b && !false) && PySem.W.excTail (bmOf b) (_ ++ bmOf b)) = true
    rw [over_tail hov b, beq_self_eq_true, beq_self_eq_true] <;> rfl
  · unfold PySem.W.excOver
    rw [hcls]
    obtain ⟨nm, bs, mro, ns, qn, hdct, sn, sub, ab, col, hdel⟩ := cd
    dsimp only at hm
    subst hm
    show (C == C && PySem.W.excTail (bmOf b) (_ ++ bmOf b)) = true
    rw [over_tail hov b, beq_self_eq_true] <;> rfl
end LW
end
section
set_option Elab.async false
set_option linter.all false
set_option maxRecDepth 100000
set_option maxHeartbeats 4000000
/-! printed by gen/gen.py: each def, its term and its rule -/
namespace K00
open PySem PySem.Spec PyProof.Rows L2 LamX U
/-- what the top has written, by names -/
structure Glob (K : PySem.W.Frag) (mg : Str → Option Value) : Prop where
  g_ask_text : mg "ask_text" = some (.ref (He.ga K "ask_text"))
  g_ask_digits : mg "ask_digits" = some (.ref (He.ga K "ask_digits"))
  g_ten_to : mg "ten_to" = some (.ref (He.ga K "ten_to"))
  g_digit_count : mg "digit_count" = some (.ref (He.ga K "digit_count"))
  g_is_digits : mg "is_digits" = some (.ref (He.ga K "is_digits"))
  g_whole_of : mg "whole_of" = some (.ref (He.ga K "whole_of"))
  g_is_whole : mg "is_whole" = some (.ref (He.ga K "is_whole"))
  g_pair_of : mg "pair_of" = some (.ref (He.ga K "pair_of"))
  g_text_of : mg "text_of" = some (.ref (He.ga K "text_of"))
  g_text_parts : mg "text_parts" = some (.ref (He.ga K "text_parts"))
  g_number_parts : mg "number_parts" = some (.ref (He.ga K "number_parts"))
  g_most_of_parts : mg "most_of_parts" = some (.ref (He.ga K "most_of_parts"))
  g_read_number : mg "read_number" = some (.ref (He.ga K "read_number"))
  g_number_text : mg "number_text" = some (.ref (He.ga K "number_text"))
  g__law_jar : mg "_law_jar" = some (.ref (He.ga K "_law_jar"))
  g__law_draw : mg "_law_draw" = some (.ref (He.ga K "_law_draw"))
  g__law_pick : mg "_law_pick" = some (.ref (He.ga K "_law_pick"))
  g__law_reach : mg "_law_reach" = some (.ref (He.ga K "_law_reach"))
  g__law_like : mg "_law_like" = some (.ref (He.ga K "_law_like"))
  g__law_classes : mg "_law_classes" = some (.ref (He.ga K "_law_classes"))
  g__law_fields : mg "_law_fields" = some (.ref (He.ga K "_law_fields"))
  g__law_parts_of : mg "_law_parts_of" = some (.ref (He.ga K "_law_parts_of"))
  g__law_tried : mg "_law_tried" = some (.ref (He.ga K "_law_tried"))
  g__law_refused : mg "_law_refused" = some (.ref (He.ga K "_law_refused"))
  g__law_gcd : mg "_law_gcd" = some (.ref (He.ga K "_law_gcd"))
  g__law_low : mg "_law_low" = some (.ref (He.ga K "_law_low"))
  g__law_word : mg "_law_word" = some (.ref (He.ga K "_law_word"))
  g__law_digits : mg "_law_digits" = some (.ref (He.ga K "_law_digits"))
  g__law_reads : mg "_law_reads" = some (.ref (He.ga K "_law_reads"))
  g__law_due : mg "_law_due" = some (.ref (He.ga K "_law_due"))
  g__law_integer : mg "_law_integer" = some (.ref (He.ga K "_law_integer"))
  g__law_asked : mg "_law_asked" = some (.ref (He.ga K "_law_asked"))
  g__law_forms : mg "_law_forms" = some (.ref (He.ga K "_law_forms"))
  g__law_bent : mg "_law_bent" = some (.ref (He.ga K "_law_bent"))
  g__law_strange : mg "_law_strange" = some (.ref (He.ga K "_law_strange"))
  g__law_thing : mg "_law_thing" = some (.ref (He.ga K "_law_thing"))
  g__law_singles : mg "_law_singles" = some (.ref (He.ga K "_law_singles"))
  g__law_others : mg "_law_others" = some (.ref (He.ga K "_law_others"))
  g_law : mg "law" = some (.ref (He.ga K "law"))
  g_Refused : mg "Refused" = some (.ref (He.ga K "Refused"))
  g_BadNumber : mg "BadNumber" = some (.ref (He.ga K "BadNumber"))
  g_BadSum : mg "BadSum" = some (.ref (He.ga K "BadSum"))
  g_BadQuotient : mg "BadQuotient" = some (.ref (He.ga K "BadQuotient"))
  g_BadLandscape : mg "BadLandscape" = some (.ref (He.ga K "BadLandscape"))
  g_BadWell : mg "BadWell" = some (.ref (He.ga K "BadWell"))
  g_BadWall : mg "BadWall" = some (.ref (He.ga K "BadWall"))
  g_BadShape : mg "BadShape" = some (.ref (He.ga K "BadShape"))
  g_BadRoll : mg "BadRoll" = some (.ref (He.ga K "BadRoll"))
  g_BadOperator : mg "BadOperator" = some (.ref (He.ga K "BadOperator"))
  g_BadSymbol : mg "BadSymbol" = some (.ref (He.ga K "BadSymbol"))
  g_BadStep : mg "BadStep" = some (.ref (He.ga K "BadStep"))
  g_BadPaper : mg "BadPaper" = some (.ref (He.ga K "BadPaper"))
  g_BadName : mg "BadName" = some (.ref (He.ga K "BadName"))
  g_BadScript : mg "BadScript" = some (.ref (He.ga K "BadScript"))
  g_Barred : mg "Barred" = some (.ref (He.ga K "Barred"))
  g_Unlike : mg "Unlike" = some (.ref (He.ga K "Unlike"))
  g_HasResidue : mg "HasResidue" = some (.ref (He.ga K "HasResidue"))
  g_NotKept : mg "NotKept" = some (.ref (He.ga K "NotKept"))
  g_TooMany : mg "TooMany" = some (.ref (He.ga K "TooMany"))
  g_NoSuch : mg "NoSuch" = some (.ref (He.ga K "NoSuch"))
  g_Ended : mg "Ended" = some (.ref (He.ga K "Ended"))
  i_MOST_DIGITS : ∃ t, mg "MOST_DIGITS" = some (.int 60 t)
  i_MOST_TEXT : ∃ t, mg "MOST_TEXT" = some (.int 60000 t)
  i_CHUNK : ∃ t, mg "CHUNK" = some (.int 1000 t)
  z_FIGURES : ∃ t, mg "FIGURES" = some (.str "0123456789" t)
  b_LookupError : mg "LookupError" = none
  b_RuntimeError : mg "RuntimeError" = none
  b_ValueError : mg "ValueError" = none
  b_abs : mg "abs" = none
  b_bool : mg "bool" = none
  b_int : mg "int" = none
  b_isinstance : mg "isinstance" = none
  b_len : mg "len" = none
  b_list : mg "list" = none
  b_max : mg "max" = none
  b_range : mg "range" = none
  b_str : mg "str" = none
  b_tuple : mg "tuple" = none
  m_gcd : mg "gcd" = some (.builtin "math.gcd")
section
variable {P : Program} {w : World} {K : PySem.W.Frag} {mg : Str → Option Value} {base : Heap}
theorem sc_ask_text : FnScope ["count"] ["count"] (defScope s_ask_text) := ⟨rfl, rfl, rfl, by decide +kernel, rfl, by decide +kernel, by decide +kernel⟩
def t_ask_text (K : PySem.W.Frag) (E : XK) : TS := (tIfS (tTest (tOp qGt (tVar 0) (tC (.int 60000)))) (tRaise (He.ga K "TooMany") ["what", "count"] (fun cls d _ H => E cls d H) (tCons (tC (.str "text")) (tCons (tVar 0) tNil))) tNext)
theorem fn_ask_text (G : Glob K mg) {fdI_TooMany : FuncData} (O_TooMany : LE.Own K (He.ga K "TooMany")) (I_TooMany : FnOk P w K mg base (L2N.CX P w) 1 (He.ma K (He.ga K "TooMany") "__init__") fdI_TooMany ["self", "what", "count"] (spI (He.ga K "TooMany") ["what", "count"])) (J_TooMany : Binds K fdI_TooMany ["self", "what", "count"] []) {fd : FuncData} (F : FunD K "ask_text" "ask_text" (defArgs s_ask_text) (defBody s_ask_text) (defScope s_ask_text) [] [] (He.ga K "ask_text") fd) {sp : Sp} (len : ∀ vs H Q E, sp vs H Q E → vs.length = 1)
    (rd : ∀ vs H Q E, sp vs H Q E → t_ask_text K E { nx := fun _ H' => Q .non H', rt := Q } (start ["count"] vs) H) : Has P w K mg base "ask_text" 3 ["count"] sp := by
  have nd := (sc_ask_text).nd
  refine ⟨G.g_ask_text, F.kp, fd, F.ok sc_ask_text len (fun cdv A outer s H vs Q E hr h => ⟨t_ask_text K E, ?_, rd vs H Q E h⟩), F.bindsN fun _ _ _ _ _ _ us hl => match us, hl with | [_], _ => rfl⟩
  have tk := L2N.takes_of (X := cxOf (L2N.CX P w) P w K mg base ["count"] "ask_text" (defScope s_ask_text) (He.ga K "ask_text") cdv A outer s H E) (E := E) rfl rfl rfl rfl
  exact (pss_one (ps_if (pt_cmpR op_gt (pv 0) (pe_gint (by rfl) G.i_MOST_TEXT) (by rfl)) (pss_one (ps_raiseU rfl tk (O_TooMany) I_TooMany J_TooMany hr (by decide) (by rfl) G.g_TooMany (by decide) (mono_cons (by first | exact mono_var | exact mono_c | exact mono_abs (mono_cons mono_var mono_nil)) (mono_cons (by first | exact mono_var | exact mono_c | exact mono_abs (mono_cons mono_var mono_nil)) mono_nil)) (pa_cons pe_str (pa_cons (pv 0) pa_nil)))) pss_nil))
theorem sc_ask_digits : FnScope ["count"] ["count"] (defScope s_ask_digits) := ⟨rfl, rfl, rfl, by decide +kernel, rfl, by decide +kernel, by decide +kernel⟩
def t_ask_digits (K : PySem.W.Frag) (E : XK) : TS := (tIfS (tTest (tOp qGt (tVar 0) (tC (.int 60)))) (tRaise (He.ga K "TooMany") ["what", "count"] (fun cls d _ H => E cls d H) (tCons (tC (.str "digits")) (tCons (tVar 0) tNil))) tNext)
theorem fn_ask_digits (G : Glob K mg) {fdI_TooMany : FuncData} (O_TooMany : LE.Own K (He.ga K "TooMany")) (I_TooMany : FnOk P w K mg base (L2N.CX P w) 1 (He.ma K (He.ga K "TooMany") "__init__") fdI_TooMany ["self", "what", "count"] (spI (He.ga K "TooMany") ["what", "count"])) (J_TooMany : Binds K fdI_TooMany ["self", "what", "count"] []) {fd : FuncData} (F : FunD K "ask_digits" "ask_digits" (defArgs s_ask_digits) (defBody s_ask_digits) (defScope s_ask_digits) [] [] (He.ga K "ask_digits") fd) {sp : Sp} (len : ∀ vs H Q E, sp vs H Q E → vs.length = 1)
    (rd : ∀ vs H Q E, sp vs H Q E → t_ask_digits K E { nx := fun _ H' => Q .non H', rt := Q } (start ["count"] vs) H) : Has P w K mg base "ask_digits" 3 ["count"] sp := by
  have nd := (sc_ask_digits).nd
  refine ⟨G.g_ask_digits, F.kp, fd, F.ok sc_ask_digits len (fun cdv A outer s H vs Q E hr h => ⟨t_ask_digits K E, ?_, rd vs H Q E h⟩), F.bindsN fun _ _ _ _ _ _ us hl => match us, hl with | [_], _ => rfl⟩
  have tk := L2N.takes_of (X := cxOf (L2N.CX P w) P w K mg base ["count"] "ask_digits" (defScope s_ask_digits) (He.ga K "ask_digits") cdv A outer s H E) (E := E) rfl rfl rfl rfl
  exact (pss_one (ps_if (pt_cmpR op_gt (pv 0) (pe_gint (by rfl) G.i_MOST_DIGITS) (by rfl)) (pss_one (ps_raiseU rfl tk (O_TooMany) I_TooMany J_TooMany hr (by decide) (by rfl) G.g_TooMany (by decide) (mono_cons (by first | exact mono_var | exact mono_c | exact mono_abs (mono_cons mono_var mono_nil)) (mono_cons (by first | exact mono_var | exact mono_c | exact mono_abs (mono_cons mono_var mono_nil)) mono_nil)) (pa_cons pe_str (pa_cons (pv 0) pa_nil)))) pss_nil))
theorem sc_ten_to : FnScope ["count", "result", "base", "left"] ["count"] (defScope s_ten_to) := ⟨rfl, rfl, rfl, by decide +kernel, rfl, by decide +kernel, by decide +kernel⟩
def t_ten_to (K : PySem.W.Frag) : TS := (tSeq (tAsg (tC (.int 1)) (gName 1))
  (tSeq (tAsg (tC (.int 10)) (gName 2))
  (tSeq (tAsg (tVar 0) (gName 3))
  (tSeq (tWhile (tTest (tOp qGt (tVar 3) (tC (.int 0)))) (tSeq (tIfS (tTest (tOp (uEq K) (tOp qAnd (tVar 3) (tC (.int 1))) (tC (.int 1)))) (tAsg (tOp qMulW (tVar 1) (tVar 2)) (gName 1)) tNext)
  (tSeq (tAsg (tOp qFdivW (tVar 3) (tC (.int 2))) (gName 3))
  (tIfS (tTest (tOp qGt (tVar 3) (tC (.int 0)))) (tAsg (tOp qMulW (tVar 2) (tVar 2)) (gName 2)) tNext))))
  (tRet (tVar 1))))))
theorem fn_ten_to (G : Glob K mg) {fd : FuncData} (F : FunD K "ten_to" "ten_to" (defArgs s_ten_to) (defBody s_ten_to) (defScope s_ten_to) [] [] (He.ga K "ten_to") fd) {sp : Sp} (len : ∀ vs H Q E, sp vs H Q E → vs.length = 1)
    (rd : ∀ vs H Q E, sp vs H Q E → t_ten_to K { nx := fun _ H' => Q .non H', rt := Q } (start ["count", "result", "base", "left"] vs) H) : Has P w K mg base "ten_to" 1 ["count"] sp := by
  have nd := (sc_ten_to).nd
  refine ⟨G.g_ten_to, F.kp, fd, F.ok sc_ten_to len (fun cdv A outer s H vs Q E hr h => ⟨t_ten_to K, ?_, rd vs H Q E h⟩), F.bindsN fun _ _ _ _ _ _ us hl => match us, hl with | [_], _ => rfl⟩
  refine PSs.nox ?_
  exact (pss_cons (ps_set (i := 1) nd rfl (by first | exact Or.inl rfl | exact Or.inr rfl) pe_int)
      (pss_cons (ps_set (i := 2) nd rfl (by first | exact Or.inl rfl | exact Or.inr rfl) pe_int)
      (pss_cons (ps_set (i := 3) nd rfl (by first | exact Or.inl rfl | exact Or.inr rfl) (pv 0))
      (pss_cons (ps_while PassesOwn.never (pt_cmpR op_gt (pv 3) pe_int (by rfl)) (pss_cons (ps_if (pt_cmpR (op_uEq hr.units) (pe_op op_and (pv 3) pe_int) pe_int (by rfl)) (pss_one (ps_set (i := 1) nd rfl (by first | exact Or.inl rfl | exact Or.inr rfl) (pe_op op_mulW (pv 1) (pv 2)))) pss_nil)
      (pss_cons (ps_set (i := 3) nd rfl (by first | exact Or.inl rfl | exact Or.inr rfl) (pe_op op_fdivW (pv 3) pe_int))
      (pss_one (ps_if (pt_cmpR op_gt (pv 3) pe_int (by rfl)) (pss_one (ps_set (i := 2) nd rfl (by first | exact Or.inl rfl | exact Or.inr rfl) (pe_op op_mulW (pv 2) (pv 2)))) pss_nil)))))
      (pss_one (ps_ret (pv 1)))))))
theorem sc_digit_count : FnScope ["number", "size", "count", "power"] ["number"] (defScope s_digit_count) := ⟨rfl, rfl, rfl, by decide +kernel, rfl, by decide +kernel, by decide +kernel⟩
def t_digit_count (K : PySem.W.Frag) (sp_ten_to : Sp) : TS := (tSeq (tAsg (tCB (uAbs) (tCons (tVar 0) tNil)) (gName 1))
  (tSeq (tIfS (tTest (tOp qLt (tVar 1) (tC (.int 10)))) (tRet (tC (.int 1))) tNext)
  (tSeq (tAsg (tOp qFdiv (tOp uMul (tOp qSub (tBits (tVar 1)) (tC (.int 1))) (tC (.int 30102))) (tC (.int 100000))) (gName 2))
  (tSeq (tAsg (tCall sp_ten_to [] E0 (tCons (tVar 2) tNil)) (gName 3))
  (tSeq (tWhile (tTest (tOp qLe (tVar 3) (tVar 1))) (tSeq (tAsg (tOp uMul (tVar 3) (tC (.int 10))) (gName 3))
  (tAsg (tOp (uAdd K) (tVar 2) (tC (.int 1))) (gName 2))))
  (tRet (tVar 2)))))))
theorem fn_digit_count (G : Glob K mg) {sp_ten_to : Sp} (h_ten_to : Has P w K mg base "ten_to" 1 ["count"] sp_ten_to) {fd : FuncData} (F : FunD K "digit_count" "digit_count" (defArgs s_digit_count) (defBody s_digit_count) (defScope s_digit_count) [] [] (He.ga K "digit_count") fd) {sp : Sp} (len : ∀ vs H Q E, sp vs H Q E → vs.length = 1)
    (rd : ∀ vs H Q E, sp vs H Q E → t_digit_count K sp_ten_to { nx := fun _ H' => Q .non H', rt := Q } (start ["number", "size", "count", "power"] vs) H) : Has P w K mg base "digit_count" 2 ["number"] sp := by
  have nd := (sc_digit_count).nd
  refine ⟨G.g_digit_count, F.kp, fd, F.ok sc_digit_count len (fun cdv A outer s H vs Q E hr h => ⟨t_digit_count K sp_ten_to, ?_, rd vs H Q E h⟩), F.bindsN fun _ _ _ _ _ _ us hl => match us, hl with | [_], _ => rfl⟩
  refine PSs.nox ?_
  exact (pss_cons (ps_set (i := 1) nd rfl (by first | exact Or.inl rfl | exact Or.inr rfl) (pe_callB U.cr_abs (by rfl) G.b_abs (by first | rfl | kernel_rfl) (pa_cons (pv 0) pa_nil)))
      (pss_cons (ps_if (pt_cmpR op_lt (pv 1) pe_int (by rfl)) (pss_one (ps_ret pe_int)) pss_nil)
      (pss_cons (ps_set (i := 2) nd rfl (by first | exact Or.inl rfl | exact Or.inr rfl) (pe_op op_fdiv (pe_op op_uMul (pe_op op_sub (pe_bits (pv 1)) pe_int) pe_int) pe_int))
      (pss_cons (ps_set (i := 3) nd rfl (by first | exact Or.inl rfl | exact Or.inr rfl) (pe_callU h_ten_to hr (by decide) (by rfl) passN (pa_cons (pv 2) pa_nil)))
      (pss_cons (ps_while PassesOwn.never (pt_cmpR op_le (pv 3) (pv 1) (by rfl)) (pss_cons (ps_set (i := 3) nd rfl (by first | exact Or.inl rfl | exact Or.inr rfl) (pe_op op_uMul (pv 3) pe_int))
      (pss_one (ps_set (i := 2) nd rfl (by first | exact Or.inl rfl | exact Or.inr rfl) (pe_op op_uAdd (pv 2) pe_int)))))
      (pss_one (ps_ret (pv 2))))))))
theorem sc_is_digits : FnScope ["text", "sign"] ["text"] (defScope s_is_digits) := ⟨rfl, rfl, rfl, by decide +kernel, rfl, by decide +kernel, by decide +kernel⟩
def t_is_digits (K : PySem.W.Frag) : TS := (tSeq (tIfS (tTest (tOp (uEq K) (tVar 0) (tC (.str "")))) (tRet (tC (.bl false))) tNext)
  (tSeq (tFor (iStr (tVar 0)) (gName 1) (tIfS (tTest (tOp (uIn K true) (tVar 1) (tC (.str "0123456789")))) (tRet (tC (.bl false))) tNext))
  (tRet (tOrV (tOp (uEq K) (tVar 0) (tC (.str "0"))) (tOp (uNe K) (tOp (uIx K) (tVar 0) (tC (.int 0))) (tC (.str "0")))))))
theorem fn_is_digits (G : Glob K mg) {fd : FuncData} (F : FunD K "is_digits" "is_digits" (defArgs s_is_digits) (defBody s_is_digits) (defScope s_is_digits) [] [] (He.ga K "is_digits") fd) {sp : Sp} (len : ∀ vs H Q E, sp vs H Q E → vs.length = 1)
    (rd : ∀ vs H Q E, sp vs H Q E → t_is_digits K { nx := fun _ H' => Q .non H', rt := Q } (start ["text", "sign"] vs) H) : Has P w K mg base "is_digits" 1 ["text"] sp := by
  have nd := (sc_is_digits).nd
  refine ⟨G.g_is_digits, F.kp, fd, F.ok sc_is_digits len (fun cdv A outer s H vs Q E hr h => ⟨t_is_digits K, ?_, rd vs H Q E h⟩), F.bindsN fun _ _ _ _ _ _ us hl => match us, hl with | [_], _ => rfl⟩
  refine PSs.nox ?_
  exact (pss_cons (ps_if (pt_cmpR (op_uEq hr.units) (pv 0) pe_str (by rfl)) (pss_one (ps_ret pe_bl)) pss_nil)
      (pss_cons (ps_for PassesOwn.never rfl (pi_str (pv 0)) (pg_name (i := 1) nd rfl (by first | exact Or.inl rfl | exact Or.inr rfl) (by first | exact Or.inl rfl | exact Or.inr rfl)) (pss_one (ps_if (pt_cmpR op_uNotIn (pv 1) (pe_gstr (by rfl) G.z_FIGURES) (by rfl)) (pss_one (ps_ret pe_bl)) pss_nil)))
      (pss_one (ps_ret (pe_or (pe_cmpR (op_uEq hr.units) (pv 0) pe_str (by rfl)) (pe_one (pe_cmpR (op_uNe hr.units) (pe_ix ix_u (pv 0) pe_int (fun _ _ => rfl)) pe_str (by rfl))))))))
theorem sc_whole_of : FnScope ["text", "first", "value", "step", "at"] ["text"] (defScope s_whole_of) := ⟨rfl, rfl, rfl, by decide +kernel, rfl, by decide +kernel, by decide +kernel⟩
def t_whole_of (K : PySem.W.Frag) : TS := (tSeq (tIfS (tTest (tOp qLe (tCB (uLen K) (tCons (tVar 0) tNil)) (tC (.int 1000)))) (tRet (tCB (uInt) (tCons (tVar 0) tNil))) tNext)
  tNever)
theorem fn_whole_of (G : Glob K mg) {fd : FuncData} (F : FunD K "whole_of" "whole_of" (defArgs s_whole_of) (defBody s_whole_of) (defScope s_whole_of) [] [] (He.ga K "whole_of") fd) {sp : Sp} (len : ∀ vs H Q E, sp vs H Q E → vs.length = 1)
    (rd : ∀ vs H Q E, sp vs H Q E → t_whole_of K { nx := fun _ H' => Q .non H', rt := Q } (start ["text", "first", "value", "step", "at"] vs) H) : Has P w K mg base "whole_of" 1 ["text"] sp := by
  have nd := (sc_whole_of).nd
  refine ⟨G.g_whole_of, F.kp, fd, F.ok sc_whole_of len (fun cdv A outer s H vs Q E hr h => ⟨t_whole_of K, ?_, rd vs H Q E h⟩), F.bindsN fun _ _ _ _ _ _ us hl => match us, hl with | [_], _ => rfl⟩
  refine PSs.nox ?_
  exact (pss_cons (ps_if (pt_cmpR op_le (pe_callB cr_len (by rfl) G.b_len (by first | rfl | kernel_rfl) (pa_cons (pv 0) pa_nil)) (pe_gint (by rfl) G.i_CHUNK) (by rfl)) (pss_one (ps_ret (pe_callTy U.cr_int (by rfl) G.b_int (by first | rfl | kernel_rfl) (pa_cons (pv 0) pa_nil)))) pss_nil)
      pss_never)
theorem sc_is_whole : FnScope ["thing"] ["thing"] (defScope s_is_whole) := ⟨rfl, rfl, rfl, by decide +kernel, rfl, by decide +kernel, by decide +kernel⟩
def t_is_whole (K : PySem.W.Frag) : TS := (tRet (tAndV (tCB (rIsi K) (tCons (tVar 0) (tCons (tC (.ty "int")) tNil))) (tNotV (tCB (rIsi K) (tCons (tVar 0) (tCons (tC (.ty "bool")) tNil))))))
theorem fn_is_whole (G : Glob K mg) {fd : FuncData} (F : FunD K "is_whole" "is_whole" (defArgs s_is_whole) (defBody s_is_whole) (defScope s_is_whole) [] [] (He.ga K "is_whole") fd) {sp : Sp} (len : ∀ vs H Q E, sp vs H Q E → vs.length = 1)
    (rd : ∀ vs H Q E, sp vs H Q E → t_is_whole K { nx := fun _ H' => Q .non H', rt := Q } (start ["thing"] vs) H) : Has P w K mg base "is_whole" 1 ["thing"] sp := by
  have nd := (sc_is_whole).nd
  refine ⟨G.g_is_whole, F.kp, fd, F.ok sc_is_whole len (fun cdv A outer s H vs Q E hr h => ⟨t_is_whole K, ?_, rd vs H Q E h⟩), F.bindsN fun _ _ _ _ _ _ us hl => match us, hl with | [_], _ => rfl⟩
  refine PSs.nox ?_
  exact (pss_one (ps_ret (pe_and (pe_callB call_isi (by rfl) G.b_isinstance (by first | rfl | kernel_rfl) (pa_cons (pv 0) (pa_cons (pe_bltn (v := .ty "int") (by rfl) G.b_int (by first | rfl | kernel_rfl) rfl) pa_nil))) (pe_one (pe_not (pe_callB call_isi (by rfl) G.b_isinstance (by first | rfl | kernel_rfl) (pa_cons (pv 0) (pa_cons (pe_bltn (v := .ty "bool") (by rfl) G.b_bool (by first | rfl | kernel_rfl) rfl) pa_nil))))))))
theorem sc_pair_of : FnScope ["top", "bottom", "part"] ["top", "bottom"] (defScope s_pair_of) := ⟨rfl, rfl, rfl, by decide +kernel, rfl, by decide +kernel, by decide +kernel⟩
def t_pair_of (K : PySem.W.Frag) : TS := (tSeq (tAsg (tCB rGcd (tCons (tVar 0) (tCons (tVar 1) tNil))) (gName 2))
  (tSeq (tIfS (tTest (tOp qLt (tVar 1) (tC (.int 0)))) (tAsg (tUn qNeg (tVar 2)) (gName 2)) tNext)
  (tRet (tTup (tCons (tOp qFdivW (tVar 0) (tVar 2)) (tCons (tOp qFdivW (tVar 1) (tVar 2)) tNil))))))
theorem fn_pair_of (G : Glob K mg) {fd : FuncData} (F : FunD K "pair_of" "pair_of" (defArgs s_pair_of) (defBody s_pair_of) (defScope s_pair_of) [] [] (He.ga K "pair_of") fd) {sp : Sp} (len : ∀ vs H Q E, sp vs H Q E → vs.length = 2)
    (rd : ∀ vs H Q E, sp vs H Q E → t_pair_of K { nx := fun _ H' => Q .non H', rt := Q } (start ["top", "bottom", "part"] vs) H) : Has P w K mg base "pair_of" 1 ["top", "bottom"] sp := by
  have nd := (sc_pair_of).nd
  refine ⟨G.g_pair_of, F.kp, fd, F.ok sc_pair_of len (fun cdv A outer s H vs Q E hr h => ⟨t_pair_of K, ?_, rd vs H Q E h⟩), F.bindsN fun _ _ _ _ _ _ us hl => match us, hl with | [_, _], _ => rfl⟩
  refine PSs.nox ?_
  exact (pss_cons (ps_set (i := 2) nd rfl (by first | exact Or.inl rfl | exact Or.inr rfl) (pe_callBfun cr_gcd (by rfl) G.m_gcd (pa_cons (pv 0) (pa_cons (pv 1) pa_nil))))
      (pss_cons (ps_if (pt_cmpR op_lt (pv 1) pe_int (by rfl)) (pss_one (ps_set (i := 2) nd rfl (by first | exact Or.inl rfl | exact Or.inr rfl) (pe_un un_neg (pv 2)))) pss_nil)
      (pss_one (ps_ret (pe_tup (pa_cons (pe_op op_fdivW (pv 0) (pv 2)) (pa_cons (pe_op op_fdivW (pv 1) (pv 2)) pa_nil)))))))
theorem sc_text_of : FnScope ["top", "bottom"] ["top", "bottom"] (defScope s_text_of) := ⟨rfl, rfl, rfl, by decide +kernel, rfl, by decide +kernel, by decide +kernel⟩
def t_text_of (K : PySem.W.Frag) : TS := (tSeq (tIfS (tTest (tOp (uEq K) (tVar 1) (tC (.int 1)))) (tRet (tFmt (tVar 0))) tNext)
  (tRet (tJoin [(tFmt (tVar 0)), (tC (.str "/")), (tFmt (tVar 1))])))
theorem fn_text_of (G : Glob K mg) {fd : FuncData} (F : FunD K "text_of" "text_of" (defArgs s_text_of) (defBody s_text_of) (defScope s_text_of) [] [] (He.ga K "text_of") fd) {sp : Sp} (len : ∀ vs H Q E, sp vs H Q E → vs.length = 2)
    (rd : ∀ vs H Q E, sp vs H Q E → t_text_of K { nx := fun _ H' => Q .non H', rt := Q } (start ["top", "bottom"] vs) H) : Has P w K mg base "text_of" 1 ["top", "bottom"] sp := by
  have nd := (sc_text_of).nd
  refine ⟨G.g_text_of, F.kp, fd, F.ok sc_text_of len (fun cdv A outer s H vs Q E hr h => ⟨t_text_of K, ?_, rd vs H Q E h⟩), F.bindsN fun _ _ _ _ _ _ us hl => match us, hl with | [_, _], _ => rfl⟩
  refine PSs.nox ?_
  exact (pss_cons (ps_if (pt_cmpR (op_uEq hr.units) (pv 1) pe_int (by rfl)) (pss_one (ps_ret (pe_joined1 (pe_fmt (pv 0))))) pss_nil)
      (pss_one (ps_ret (pe_joined (PJ.cons (pe_fmt (pv 0)) (PJ.cons pe_str (PJ.cons (pe_fmt (pv 1)) PJ.nil)))))))
theorem sc_text_parts : FnScope ["text", "minus", "bottom", "top", "head", "slash", "tail"] ["text"] (defScope s_text_parts) := ⟨rfl, rfl, rfl, by decide +kernel, rfl, by decide +kernel, by decide +kernel⟩
def t_text_parts (K : PySem.W.Frag) (sp_is_digits : Sp) (sp_whole_of : Sp) : TS := (tSeq (tAsg (tOp (uEq K) (tSl (rSl K) (tVar 0) tNoPart (tPart (tC (.int 1)))) (tC (.str "-"))) (gName 1))
  (tSeq (tAsg (tM1 qPart (tIf (tTr K (tVar 1)) (tSl (rSl K) (tVar 0) (tPart (tC (.int 1))) tNoPart) (tVar 0)) (tC (.str "/"))) (gTup K 3 (gCons (gName 4) (gCons (gName 5) (gCons (gName 6) gNil)))))
  (tSeq (tIfS (tNot (L2.tB (tCall sp_is_digits [] E0 (tCons (tVar 4) tNil)))) (tRet (tC .non)) tNext)
  (tSeq (tAsg (tC (.int 1)) (gName 2))
  (tSeq (tIfS (tTest (tOp (uNe K) (tVar 5) (tC (.str "")))) (tSeq (tIfS (tOr (tNot (L2.tB (tCall sp_is_digits [] E0 (tCons (tVar 6) tNil)))) (tTest (tOp (uEq K) (tVar 6) (tC (.str "0"))))) (tRet (tC .non)) tNext)
  (tAsg (tCall sp_whole_of [] E0 (tCons (tVar 6) tNil)) (gName 2))) tNext)
  (tSeq (tAsg (tCall sp_whole_of [] E0 (tCons (tVar 4) tNil)) (gName 3))
  (tRet (tTup (tCons (tIf (tTr K (tVar 1)) (tUn qNeg (tVar 3)) (tVar 3)) (tCons (tVar 2) tNil))))))))))
theorem fn_text_parts (G : Glob K mg) {sp_is_digits : Sp} (h_is_digits : Has P w K mg base "is_digits" 1 ["text"] sp_is_digits) {sp_whole_of : Sp} (h_whole_of : Has P w K mg base "whole_of" 1 ["text"] sp_whole_of) {fd : FuncData} (F : FunD K "text_parts" "text_parts" (defArgs s_text_parts) (defBody s_text_parts) (defScope s_text_parts) [] [] (He.ga K "text_parts") fd) {sp : Sp} (len : ∀ vs H Q E, sp vs H Q E → vs.length = 1)
    (rd : ∀ vs H Q E, sp vs H Q E → t_text_parts K sp_is_digits sp_whole_of { nx := fun _ H' => Q .non H', rt := Q } (start ["text", "minus", "bottom", "top", "head", "slash", "tail"] vs) H) : Has P w K mg base "text_parts" 2 ["text"] sp := by
  have nd := (sc_text_parts).nd
  refine ⟨G.g_text_parts, F.kp, fd, F.ok sc_text_parts len (fun cdv A outer s H vs Q E hr h => ⟨t_text_parts K sp_is_digits sp_whole_of, ?_, rd vs H Q E h⟩), F.bindsN fun _ _ _ _ _ _ us hl => match us, hl with | [_], _ => rfl⟩
  refine PSs.nox ?_
  exact (pss_cons (ps_set (i := 1) nd rfl (by first | exact Or.inl rfl | exact Or.inr rfl) (pe_cmpR (op_uEq hr.units) (pe_slice sl_u (pv 0) po_none (po_some pe_int)) pe_str (by rfl)))
      (pss_cons (ps_asg (pe_partition (pe_ifExp (pt_tr (pv 1)) (pe_slice sl_u (pv 0) (po_some pe_int) po_none) (pv 0)) pe_str) (pg_tup rfl (pgs_cons (pg_name (i := 4) nd rfl (by first | exact Or.inl rfl | exact Or.inr rfl) (by first | exact Or.inl rfl | exact Or.inr rfl)) (pgs_cons (pg_name (i := 5) nd rfl (by first | exact Or.inl rfl | exact Or.inr rfl) (by first | exact Or.inl rfl | exact Or.inr rfl)) (pgs_cons (pg_name (i := 6) nd rfl (by first | exact Or.inl rfl | exact Or.inr rfl) (by first | exact Or.inl rfl | exact Or.inr rfl)) pgs_nil)))))
      (pss_cons (ps_if (pt_not (pt_val (pe_callU h_is_digits hr (by decide) (by rfl) passN (pa_cons (pv 4) pa_nil)))) (pss_one (ps_ret pe_non)) pss_nil)
      (pss_cons (ps_set (i := 2) nd rfl (by first | exact Or.inl rfl | exact Or.inr rfl) pe_int)
      (pss_cons (ps_if (pt_cmpR (op_uNe hr.units) (pv 5) pe_str (by rfl)) (pss_cons (ps_if ((pw_or (pt_not (pt_val (pe_callU h_is_digits hr (by decide) (by rfl) passN (pa_cons (pv 6) pa_nil)))) (pw_or1 (pt_cmpR (op_uEq hr.units) (pv 6) pe_str (by rfl))))).pt (pss_one (ps_ret pe_non)) pss_nil)
      (pss_one (ps_set (i := 2) nd rfl (by first | exact Or.inl rfl | exact Or.inr rfl) (pe_callU h_whole_of hr (by decide) (by rfl) passN (pa_cons (pv 6) pa_nil))))) pss_nil)
      (pss_cons (ps_set (i := 3) nd rfl (by first | exact Or.inl rfl | exact Or.inr rfl) (pe_callU h_whole_of hr (by decide) (by rfl) passN (pa_cons (pv 4) pa_nil)))
      (pss_one (ps_ret (pe_tup (pa_cons (pe_ifExp (pt_tr (pv 1)) (pe_un un_neg (pv 3)) (pv 3)) (pa_cons (pv 2) pa_nil)))))))))))
theorem sc_number_parts : FnScope ["thing", "top", "bottom"] ["thing"] (defScope s_number_parts) := ⟨rfl, rfl, rfl, by decide +kernel, rfl, by decide +kernel, by decide +kernel⟩
def t_number_parts (K : PySem.W.Frag) (sp_is_whole : Sp) (sp_text_parts : Sp) : TS := (tSeq (tIfS (L2.tB (tCall sp_is_whole [] E0 (tCons (tVar 0) tNil))) (tRet (tTup (tCons (tVar 0) (tCons (tC (.int 1)) tNil)))) tNext)
  (tSeq (tIfS (L2.tB (tCB (rIsi K) (tCons (tVar 0) (tCons (tC (.ty "str")) tNil)))) (tRet (tCall sp_text_parts [] E0 (tCons (tVar 0) tNil))) tNext)
  (tSeq (tIfS (tAnd (L2.tB (tCB (rIsi K) (tCons (tVar 0) (tCons (tC (.ty "tuple")) tNil)))) (tTest (tOp (uEq K) (tCB (uLen K) (tCons (tVar 0) tNil)) (tC (.int 2))))) (tSeq (tAsg (tVar 0) (gTup K 2 (gCons (gName 1) (gCons (gName 2) gNil))))
  (tIfS (tAnd (L2.tB (tCall sp_is_whole [] E0 (tCons (tVar 1) tNil))) (tAnd (L2.tB (tCall sp_is_whole [] E0 (tCons (tVar 2) tNil))) (tTest (tOp qGt (tVar 2) (tC (.int 0)))))) (tRet (tTup (tCons (tVar 1) (tCons (tVar 2) tNil)))) tNext)) tNext)
  (tRet (tC .non)))))
theorem fn_number_parts (G : Glob K mg) {sp_is_whole : Sp} (h_is_whole : Has P w K mg base "is_whole" 1 ["thing"] sp_is_whole) {sp_text_parts : Sp} (h_text_parts : Has P w K mg base "text_parts" 2 ["text"] sp_text_parts) {fd : FuncData} (F : FunD K "number_parts" "number_parts" (defArgs s_number_parts) (defBody s_number_parts) (defScope s_number_parts) [] [] (He.ga K "number_parts") fd) {sp : Sp} (len : ∀ vs H Q E, sp vs H Q E → vs.length = 1)
    (rd : ∀ vs H Q E, sp vs H Q E → t_number_parts K sp_is_whole sp_text_parts { nx := fun _ H' => Q .non H', rt := Q } (start ["thing", "top", "bottom"] vs) H) : Has P w K mg base "number_parts" 3 ["thing"] sp := by
  have nd := (sc_number_parts).nd
  refine ⟨G.g_number_parts, F.kp, fd, F.ok sc_number_parts len (fun cdv A outer s H vs Q E hr h => ⟨t_number_parts K sp_is_whole sp_text_parts, ?_, rd vs H Q E h⟩), F.bindsN fun _ _ _ _ _ _ us hl => match us, hl with | [_], _ => rfl⟩
  refine PSs.nox ?_
  exact (pss_cons (ps_if (pt_val (pe_callU h_is_whole hr (by decide) (by rfl) passN (pa_cons (pv 0) pa_nil))) (pss_one (ps_ret (pe_tup (pa_cons (pv 0) (pa_cons pe_int pa_nil))))) pss_nil)
      (pss_cons (ps_if (pt_val (pe_callB call_isi (by rfl) G.b_isinstance (by first | rfl | kernel_rfl) (pa_cons (pv 0) (pa_cons (pe_bltn (v := .ty "str") (by rfl) G.b_str (by first | rfl | kernel_rfl) rfl) pa_nil)))) (pss_one (ps_ret (pe_callU h_text_parts hr (by decide) (by rfl) passN (pa_cons (pv 0) pa_nil)))) pss_nil)
      (pss_cons (ps_if ((pw_and (pt_val (pe_callB call_isi (by rfl) G.b_isinstance (by first | rfl | kernel_rfl) (pa_cons (pv 0) (pa_cons (pe_bltn (v := .ty "tuple") (by rfl) G.b_tuple (by first | rfl | kernel_rfl) rfl) pa_nil)))) (pw_and1 (pt_cmpR (op_uEq hr.units) (pe_callB cr_len (by rfl) G.b_len (by first | rfl | kernel_rfl) (pa_cons (pv 0) pa_nil)) pe_int (by rfl))))).pt (pss_cons (ps_asg (pv 0) (pg_tup rfl (pgs_cons (pg_name (i := 1) nd rfl (by first | exact Or.inl rfl | exact Or.inr rfl) (by first | exact Or.inl rfl | exact Or.inr rfl)) (pgs_cons (pg_name (i := 2) nd rfl (by first | exact Or.inl rfl | exact Or.inr rfl) (by first | exact Or.inl rfl | exact Or.inr rfl)) pgs_nil))))
      (pss_one (ps_if ((pw_and (pt_val (pe_callU h_is_whole hr (by decide) (by rfl) passN (pa_cons (pv 1) pa_nil))) (pw_and (pt_val (pe_callU h_is_whole hr (by decide) (by rfl) passN (pa_cons (pv 2) pa_nil))) (pw_and1 (pt_cmpR op_gt (pv 2) pe_int (by rfl)))))).pt (pss_one (ps_ret (pe_tup (pa_cons (pv 1) (pa_cons (pv 2) pa_nil))))) pss_nil))) pss_nil)
      (pss_one (ps_ret pe_non)))))
theorem sc_most_of_parts : FnScope ["top", "bottom"] ["top", "bottom"] (defScope s_most_of_parts) := ⟨rfl, rfl, rfl, by decide +kernel, rfl, by decide +kernel, by decide +kernel⟩
def t_most_of_parts (K : PySem.W.Frag) (sp_digit_count : Sp) : TS := (tRet (tCB (uMax) (tCons (tCall sp_digit_count [] E0 (tCons (tVar 0) tNil)) (tCons (tCall sp_digit_count [] E0 (tCons (tVar 1) tNil)) tNil))))
theorem fn_most_of_parts (G : Glob K mg) {sp_digit_count : Sp} (h_digit_count : Has P w K mg base "digit_count" 2 ["number"] sp_digit_count) {fd : FuncData} (F : FunD K "most_of_parts" "most_of_parts" (defArgs s_most_of_parts) (defBody s_most_of_parts) (defScope s_most_of_parts) [] [] (He.ga K "most_of_parts") fd) {sp : Sp} (len : ∀ vs H Q E, sp vs H Q E → vs.length = 2)
    (rd : ∀ vs H Q E, sp vs H Q E → t_most_of_parts K sp_digit_count { nx := fun _ H' => Q .non H', rt := Q } (start ["top", "bottom"] vs) H) : Has P w K mg base "most_of_parts" 3 ["top", "bottom"] sp := by
  have nd := (sc_most_of_parts).nd
  refine ⟨G.g_most_of_parts, F.kp, fd, F.ok sc_most_of_parts len (fun cdv A outer s H vs Q E hr h => ⟨t_most_of_parts K sp_digit_count, ?_, rd vs H Q E h⟩), F.bindsN fun _ _ _ _ _ _ us hl => match us, hl with | [_, _], _ => rfl⟩
  refine PSs.nox ?_
  exact (pss_one (ps_ret (pe_callB (U.cr_max rfl) (by rfl) G.b_max (by first | rfl | kernel_rfl) (pa_cons (pe_callU h_digit_count hr (by decide) (by rfl) passN (pa_cons (pv 0) pa_nil)) (pa_cons (pe_callU h_digit_count hr (by decide) (by rfl) passN (pa_cons (pv 1) pa_nil)) pa_nil)))))
theorem sc_read_number : FnScope ["thing", "parts", "top", "bottom"] ["thing"] (defScope s_read_number) := ⟨rfl, rfl, rfl, by decide +kernel, rfl, by decide +kernel, by decide +kernel⟩
def t_read_number (K : PySem.W.Frag) (sp_ask_text : Sp) (sp_number_parts : Sp) (sp_ask_digits : Sp) (sp_most_of_parts : Sp) (sp_pair_of : Sp) (E : XK) : TS := (tSeq (tIfS (L2.tB (tCB (rIsi K) (tCons (tVar 0) (tCons (tC (.ty "str")) tNil)))) (tDrop (tCall sp_ask_text [] E (tCons (tCB (uLen K) (tCons (tVar 0) tNil)) tNil))) tNext)
  (tSeq (tAsg (tCall sp_number_parts [] E (tCons (tVar 0) tNil)) (gName 1))
  (tSeq (tIfS (tTest (tOp rIsN (tVar 1) (tC .non))) (tRaise (He.ga K "BadNumber") ["at"] (fun cls d _ H => E cls d H) (tCons (tC (.int 0)) tNil)) tNext)
  (tSeq (tAsg (tVar 1) (gTup K 2 (gCons (gName 2) (gCons (gName 3) gNil))))
  (tSeq (tDrop (tCall sp_ask_digits [] E (tCons (tCall sp_most_of_parts [] E (tCons (tVar 2) (tCons (tVar 3) tNil))) tNil)))
  (tRet (tCall sp_pair_of [] E (tCons (tVar 2) (tCons (tVar 3) tNil)))))))))
theorem fn_read_number (G : Glob K mg) {sp_ask_text : Sp} (h_ask_text : Has P w K mg base "ask_text" 3 ["count"] sp_ask_text) {sp_number_parts : Sp} (h_number_parts : Has P w K mg base "number_parts" 3 ["thing"] sp_number_parts) {sp_ask_digits : Sp} (h_ask_digits : Has P w K mg base "ask_digits" 3 ["count"] sp_ask_digits) {sp_most_of_parts : Sp} (h_most_of_parts : Has P w K mg base "most_of_parts" 3 ["top", "bottom"] sp_most_of_parts) {sp_pair_of : Sp} (h_pair_of : Has P w K mg base "pair_of" 1 ["top", "bottom"] sp_pair_of) {fdI_BadNumber : FuncData} (O_BadNumber : LE.Own K (He.ga K "BadNumber")) (I_BadNumber : FnOk P w K mg base (L2N.CX P w) 1 (He.ma K (He.ga K "BadNumber") "__init__") fdI_BadNumber ["self", "at"] (spI (He.ga K "BadNumber") ["at"])) (J_BadNumber : Binds K fdI_BadNumber ["self", "at"] []) {fd : FuncData} (F : FunD K "read_number" "read_number" (defArgs s_read_number) (defBody s_read_number) (defScope s_read_number) [] [] (He.ga K "read_number") fd) {sp : Sp} (len : ∀ vs H Q E, sp vs H Q E → vs.length = 1)
    (rd : ∀ vs H Q E, sp vs H Q E → t_read_number K sp_ask_text sp_number_parts sp_ask_digits sp_most_of_parts sp_pair_of E { nx := fun _ H' => Q .non H', rt := Q } (start ["thing", "parts", "top", "bottom"] vs) H) : Has P w K mg base "read_number" 4 ["thing"] sp := by
  have nd := (sc_read_number).nd
  refine ⟨G.g_read_number, F.kp, fd, F.ok sc_read_number len (fun cdv A outer s H vs Q E hr h => ⟨t_read_number K sp_ask_text sp_number_parts sp_ask_digits sp_most_of_parts sp_pair_of E, ?_, rd vs H Q E h⟩), F.bindsN fun _ _ _ _ _ _ us hl => match us, hl with | [_], _ => rfl⟩
  have tk := L2N.takes_of (X := cxOf (L2N.CX P w) P w K mg base ["thing", "parts", "top", "bottom"] "read_number" (defScope s_read_number) (He.ga K "read_number") cdv A outer s H E) (E := E) rfl rfl rfl rfl
  exact (pss_cons (ps_if (pt_val (pe_callB call_isi (by rfl) G.b_isinstance (by first | rfl | kernel_rfl) (pa_cons (pv 0) (pa_cons (pe_bltn (v := .ty "str") (by rfl) G.b_str (by first | rfl | kernel_rfl) rfl) pa_nil)))) (pss_one (ps_expr (pe_callU h_ask_text hr (by decide) (by rfl) (L2N.passes_call tk fun _ _ _ _ h => h) (pa_cons (pe_callB cr_len (by rfl) G.b_len (by first | rfl | kernel_rfl) (pa_cons (pv 0) pa_nil)) pa_nil)))) pss_nil)
      (pss_cons (ps_set (i := 1) nd rfl (by first | exact Or.inl rfl | exact Or.inr rfl) (pe_callU h_number_parts hr (by decide) (by rfl) (L2N.passes_call tk fun _ _ _ _ h => h) (pa_cons (pv 0) pa_nil)))
      (pss_cons (ps_if (pt_cmpR op_isN1 (pv 1) pe_non (by rfl)) (pss_one (ps_raiseU rfl tk (O_BadNumber) I_BadNumber J_BadNumber hr (by decide) (by rfl) G.g_BadNumber (by decide) (mono_cons (by first | exact mono_var | exact mono_c | exact mono_abs (mono_cons mono_var mono_nil)) mono_nil) (pa_cons pe_int pa_nil))) pss_nil)
      (pss_cons (ps_asg (pv 1) (pg_tup rfl (pgs_cons (pg_name (i := 2) nd rfl (by first | exact Or.inl rfl | exact Or.inr rfl) (by first | exact Or.inl rfl | exact Or.inr rfl)) (pgs_cons (pg_name (i := 3) nd rfl (by first | exact Or.inl rfl | exact Or.inr rfl) (by first | exact Or.inl rfl | exact Or.inr rfl)) pgs_nil))))
      (pss_cons (ps_expr (pe_callU h_ask_digits hr (by decide) (by rfl) (L2N.passes_call tk fun _ _ _ _ h => h) (pa_cons (pe_callU h_most_of_parts hr (by decide) (by rfl) (L2N.passes_call tk fun _ _ _ _ h => h) (pa_cons (pv 2) (pa_cons (pv 3) pa_nil))) pa_nil)))
      (pss_one (ps_ret (pe_callU h_pair_of hr (by decide) (by rfl) (L2N.passes_call tk fun _ _ _ _ h => h) (pa_cons (pv 2) (pa_cons (pv 3) pa_nil))))))))))
theorem sc_number_text : FnScope ["thing", "top", "bottom"] ["thing"] (defScope s_number_text) := ⟨rfl, rfl, rfl, by decide +kernel, rfl, by decide +kernel, by decide +kernel⟩
def t_number_text (K : PySem.W.Frag) (sp_read_number : Sp) (sp_text_of : Sp) (E : XK) : TS := (tSeq (tAsg (tCall sp_read_number [] E (tCons (tVar 0) tNil)) (gTup K 2 (gCons (gName 1) (gCons (gName 2) gNil))))
  (tRet (tCall sp_text_of [] E (tCons (tVar 1) (tCons (tVar 2) tNil)))))
theorem fn_number_text (G : Glob K mg) {sp_read_number : Sp} (h_read_number : Has P w K mg base "read_number" 4 ["thing"] sp_read_number) {sp_text_of : Sp} (h_text_of : Has P w K mg base "text_of" 1 ["top", "bottom"] sp_text_of) {fd : FuncData} (F : FunD K "number_text" "number_text" (defArgs s_number_text) (defBody s_number_text) (defScope s_number_text) [] [] (He.ga K "number_text") fd) {sp : Sp} (len : ∀ vs H Q E, sp vs H Q E → vs.length = 1)
    (rd : ∀ vs H Q E, sp vs H Q E → t_number_text K sp_read_number sp_text_of E { nx := fun _ H' => Q .non H', rt := Q } (start ["thing", "top", "bottom"] vs) H) : Has P w K mg base "number_text" 5 ["thing"] sp := by
  have nd := (sc_number_text).nd
  refine ⟨G.g_number_text, F.kp, fd, F.ok sc_number_text len (fun cdv A outer s H vs Q E hr h => ⟨t_number_text K sp_read_number sp_text_of E, ?_, rd vs H Q E h⟩), F.bindsN fun _ _ _ _ _ _ us hl => match us, hl with | [_], _ => rfl⟩
  have tk := L2N.takes_of (X := cxOf (L2N.CX P w) P w K mg base ["thing", "top", "bottom"] "number_text" (defScope s_number_text) (He.ga K "number_text") cdv A outer s H E) (E := E) rfl rfl rfl rfl
  exact (pss_cons (ps_asg (pe_callU h_read_number hr (by decide) (by rfl) (L2N.passes_call tk fun _ _ _ _ h => h) (pa_cons (pv 0) pa_nil)) (pg_tup rfl (pgs_cons (pg_name (i := 1) nd rfl (by first | exact Or.inl rfl | exact Or.inr rfl) (by first | exact Or.inl rfl | exact Or.inr rfl)) (pgs_cons (pg_name (i := 2) nd rfl (by first | exact Or.inl rfl | exact Or.inr rfl) (by first | exact Or.inl rfl | exact Or.inr rfl)) pgs_nil))))
      (pss_one (ps_ret (pe_callU h_text_of hr (by decide) (by rfl) (L2N.passes_call tk fun _ _ _ _ h => h) (pa_cons (pv 1) (pa_cons (pv 2) pa_nil))))))
theorem sc__law_jar : FnScope ["script", "stir", "cell"] ["script"] (defScope s__law_jar) := ⟨rfl, rfl, rfl, by decide +kernel, rfl, by decide +kernel, by decide +kernel⟩
def t__law_jar (K : PySem.W.Frag) : TS := (tSeq (tAsg (tC (.int 19609)) (gName 1))
  (tSeq (tFor (iSeq K (tSl (rSl K) (tVar 0) tNoPart (tPart (tC (.int 63))))) (gName 2) (tAsg (tOp qMod (tCB (uInt) (tCons (tOp (uAdd K) (tOp (uAdd K) (tOp uMul (tVar 1) (tC (.int 50021))) (tOp qMod (tCB (uInt) (tCons (tVar 2) tNil)) (tC (.int 2147483549)))) (tC (.int 2311))) tNil)) (tC (.int 2147483579))) (gName 1)))
  (tRet (tLst (tCons (tCB (uList K) (tCons (tSl (rSl K) (tVar 0) tNoPart (tPart (tC (.int 63)))) tNil)) (tCons (tC (.int 0)) (tCons (tC (.int 0)) (tCons (tC (.int 0)) (tCons (tVar 1) (tCons (tC (.int 0)) tNil))))))))))
theorem fn__law_jar (G : Glob K mg) {fd : FuncData} (F : FunD K "_law_jar" "_law_jar" (defArgs s__law_jar) (defBody s__law_jar) (defScope s__law_jar) [] [] (He.ga K "_law_jar") fd) {sp : Sp} (len : ∀ vs H Q E, sp vs H Q E → vs.length = 1)
    (rd : ∀ vs H Q E, sp vs H Q E → t__law_jar K { nx := fun _ H' => Q .non H', rt := Q } (start ["script", "stir", "cell"] vs) H) : Has P w K mg base "_law_jar" 1 ["script"] sp := by
  have nd := (sc__law_jar).nd
  refine ⟨G.g__law_jar, F.kp, fd, F.ok sc__law_jar len (fun cdv A outer s H vs Q E hr h => ⟨t__law_jar K, ?_, rd vs H Q E h⟩), F.bindsN fun _ _ _ _ _ _ us hl => match us, hl with | [_], _ => rfl⟩
  refine PSs.nox ?_
  exact (pss_cons (ps_set (i := 1) nd rfl (by first | exact Or.inl rfl | exact Or.inr rfl) pe_int)
      (pss_cons (ps_for PassesOwn.never rfl (pi_seq (pe_slice sl_u (pv 0) po_none (po_some pe_int))) (pg_name (i := 2) nd rfl (by first | exact Or.inl rfl | exact Or.inr rfl) (by first | exact Or.inl rfl | exact Or.inr rfl)) (pss_one (ps_set (i := 1) nd rfl (by first | exact Or.inl rfl | exact Or.inr rfl) (pe_op op_mod (pe_callTy U.cr_int (by rfl) G.b_int (by first | rfl | kernel_rfl) (pa_cons (pe_op op_uAdd (pe_op op_uAdd (pe_op op_uMul (pv 1) pe_int) (pe_op op_mod (pe_callTy U.cr_int (by rfl) G.b_int (by first | rfl | kernel_rfl) (pa_cons (pv 2) pa_nil)) pe_int)) pe_int) pa_nil)) pe_int))))
      (pss_one (ps_ret (pe_lst (pa_cons (pe_callTy U.cr_list (by rfl) G.b_list (by first | rfl | kernel_rfl) (pa_cons (pe_slice sl_u (pv 0) po_none (po_some pe_int)) pa_nil)) (pa_cons pe_int (pa_cons pe_int (pa_cons pe_int (pa_cons (pv 1) (pa_cons pe_int pa_nil)))))))))))
theorem sc__law_draw : FnScope ["jar", "edge", "cell", "digit"] ["jar", "edge"] (defScope s__law_draw) := ⟨rfl, rfl, rfl, by decide +kernel, rfl, by decide +kernel, by decide +kernel⟩
def t__law_draw (K : PySem.W.Frag) : TS := (tSeq (tAsg (tOp (uAdd K) (tOp (uIx K) (tVar 0) (tC (.int 5))) (tC (.int 1))) (gSub (tVar 0) (tC (.int 5)) rSetL))
  (tSeq (tIfS (tAnd (tTest (tOp (uEq K) (tOp (uIx K) (tVar 0) (tC (.int 3))) (tC (.int 0)))) (tTest (tOp qLt (tOp (uIx K) (tVar 0) (tC (.int 1))) (tCB (uLen K) (tCons (tOp (uIx K) (tVar 0) (tC (.int 0))) tNil))))) (tSeq (tAsg (tOp (uIx K) (tOp (uIx K) (tVar 0) (tC (.int 0))) (tOp (uIx K) (tVar 0) (tC (.int 1)))) (gName 2))
  (tSeq (tAsg (tOp (uAdd K) (tOp (uIx K) (tVar 0) (tC (.int 1))) (tC (.int 1))) (gSub (tVar 0) (tC (.int 1)) rSetL))
  (tIfS (tTest (tOp qGe (tVar 2) (tOp qPow (tC (.int 10)) (tC (.int 18))))) (tSeq (tAsg (tVar 2) (gSub (tVar 0) (tC (.int 2)) rSetL))
  (tAsg (tC (.int 60)) (gSub (tVar 0) (tC (.int 3)) rSetL))) (tAsg (tOp qMod (tCB (uInt) (tCons (tOp (uAdd K) (tOp (uAdd K) (tOp uMul (tOp (uIx K) (tVar 0) (tC (.int 4))) (tC (.int 40093))) (tOp uMul (tOp qMod (tCB (uInt) (tCons (tVar 2) tNil)) (tC (.int 2147483549))) (tC (.int 7919)))) (tC (.int 97))) tNil)) (tC (.int 2147483579))) (gSub (tVar 0) (tC (.int 4)) rSetL))))) tNext)
  (tSeq (tIfS (tTest (tOp qGt (tOp (uIx K) (tVar 0) (tC (.int 3))) (tC (.int 0)))) (tSeq (tAsg (tOp qMod (tCB (uInt) (tCons (tOp (uIx K) (tVar 0) (tC (.int 2))) tNil)) (tVar 1)) (gName 3))
  (tSeq (tAsg (tOp qFdiv (tOp (uIx K) (tVar 0) (tC (.int 2))) (tVar 1)) (gSub (tVar 0) (tC (.int 2)) rSetL))
  (tSeq (tAsg (tIf (tTest (tOp qGt (tOp (uIx K) (tVar 0) (tC (.int 2))) (tC (.int 0)))) (tOp qSub (tOp (uIx K) (tVar 0) (tC (.int 3))) (tC (.int 1))) (tC (.int 0))) (gSub (tVar 0) (tC (.int 3)) rSetL))
  (tRet (tVar 3))))) tNext)
  (tSeq (tAsg (tOp qMod (tCB (uInt) (tCons (tOp (uAdd K) (tOp (uAdd K) (tOp qPow (tOp (uIx K) (tVar 0) (tC (.int 4))) (tC (.int 3))) (tOp uMul (tOp (uIx K) (tVar 0) (tC (.int 5))) (tC (.int 1299709)))) (tC (.int 104729))) tNil)) (tC (.int 2147483579))) (gSub (tVar 0) (tC (.int 4)) rSetL))
  (tRet (tOp qMod (tCB (uInt) (tCons (tOp (uAdd K) (tOp qFdiv (tOp (uIx K) (tVar 0) (tC (.int 4))) (tC (.int 61))) (tOp uMul (tOp qMod (tCB (uInt) (tCons (tOp (uIx K) (tVar 0) (tC (.int 4))) tNil)) (tC (.int 6007))) (tC (.int 71)))) tNil)) (tVar 1)))))))
theorem fn__law_draw (G : Glob K mg) {fd : FuncData} (F : FunD K "_law_draw" "_law_draw" (defArgs s__law_draw) (defBody s__law_draw) (defScope s__law_draw) [] [] (He.ga K "_law_draw") fd) {sp : Sp} (len : ∀ vs H Q E, sp vs H Q E → vs.length = 2)
    (rd : ∀ vs H Q E, sp vs H Q E → t__law_draw K { nx := fun _ H' => Q .non H', rt := Q } (start ["jar", "edge", "cell", "digit"] vs) H) : Has P w K mg base "_law_draw" 1 ["jar", "edge"] sp := by
  have nd := (sc__law_draw).nd
  refine ⟨G.g__law_draw, F.kp, fd, F.ok sc__law_draw len (fun cdv A outer s H vs Q E hr h => ⟨t__law_draw K, ?_, rd vs H Q E h⟩), F.bindsN fun _ _ _ _ _ _ us hl => match us, hl with | [_, _], _ => rfl⟩
  refine PSs.nox ?_
  exact (pss_cons (ps_asg (pe_op op_uAdd (pe_ix ix_u (pv 0) pe_int (fun _ _ => rfl)) pe_int) (pg_sub (pv 0) pe_int set_list))
      (pss_cons (ps_if ((pw_and (pt_cmpR (op_uEq hr.units) (pe_ix ix_u (pv 0) pe_int (fun _ _ => rfl)) pe_int (by rfl)) (pw_and1 (pt_cmpR op_lt (pe_ix ix_u (pv 0) pe_int (fun _ _ => rfl)) (pe_callB cr_len (by rfl) G.b_len (by first | rfl | kernel_rfl) (pa_cons (pe_ix ix_u (pv 0) pe_int (fun _ _ => rfl)) pa_nil)) (by rfl))))).pt (pss_cons (ps_set (i := 2) nd rfl (by first | exact Or.inl rfl | exact Or.inr rfl) (pe_ix ix_u (pe_ix ix_u (pv 0) pe_int (fun _ _ => rfl)) (pe_ix ix_u (pv 0) pe_int (fun _ _ => rfl)) (fun _ _ => rfl)))
      (pss_cons (ps_asg (pe_op op_uAdd (pe_ix ix_u (pv 0) pe_int (fun _ _ => rfl)) pe_int) (pg_sub (pv 0) pe_int set_list))
      (pss_one (ps_if (pt_cmpR op_ge (pv 2) (pe_op op_pow pe_int pe_int) (by rfl)) (pss_cons (ps_asg (pv 2) (pg_sub (pv 0) pe_int set_list))
      (pss_one (ps_asg pe_int (pg_sub (pv 0) pe_int set_list)))) (pss_one (ps_asg (pe_op op_mod (pe_callTy U.cr_int (by rfl) G.b_int (by first | rfl | kernel_rfl) (pa_cons (pe_op op_uAdd (pe_op op_uAdd (pe_op op_uMul (pe_ix ix_u (pv 0) pe_int (fun _ _ => rfl)) pe_int) (pe_op op_uMul (pe_op op_mod (pe_callTy U.cr_int (by rfl) G.b_int (by first | rfl | kernel_rfl) (pa_cons (pv 2) pa_nil)) pe_int) pe_int)) pe_int) pa_nil)) pe_int) (pg_sub (pv 0) pe_int set_list))))))) pss_nil)
      (pss_cons (ps_if (pt_cmpR op_gt (pe_ix ix_u (pv 0) pe_int (fun _ _ => rfl)) pe_int (by rfl)) (pss_cons (ps_set (i := 3) nd rfl (by first | exact Or.inl rfl | exact Or.inr rfl) (pe_op op_mod (pe_callTy U.cr_int (by rfl) G.b_int (by first | rfl | kernel_rfl) (pa_cons (pe_ix ix_u (pv 0) pe_int (fun _ _ => rfl)) pa_nil)) (pv 1)))
      (pss_cons (ps_asg (pe_op op_fdiv (pe_ix ix_u (pv 0) pe_int (fun _ _ => rfl)) (pv 1)) (pg_sub (pv 0) pe_int set_list))
      (pss_cons (ps_asg (pe_ifExp (pt_cmpR op_gt (pe_ix ix_u (pv 0) pe_int (fun _ _ => rfl)) pe_int (by rfl)) (pe_op op_sub (pe_ix ix_u (pv 0) pe_int (fun _ _ => rfl)) pe_int) pe_int) (pg_sub (pv 0) pe_int set_list))
      (pss_one (ps_ret (pv 3)))))) pss_nil)
      (pss_cons (ps_asg (pe_op op_mod (pe_callTy U.cr_int (by rfl) G.b_int (by first | rfl | kernel_rfl) (pa_cons (pe_op op_uAdd (pe_op op_uAdd (pe_op op_pow (pe_ix ix_u (pv 0) pe_int (fun _ _ => rfl)) pe_int) (pe_op op_uMul (pe_ix ix_u (pv 0) pe_int (fun _ _ => rfl)) pe_int)) pe_int) pa_nil)) pe_int) (pg_sub (pv 0) pe_int set_list))
      (pss_one (ps_ret (pe_op op_mod (pe_callTy U.cr_int (by rfl) G.b_int (by first | rfl | kernel_rfl) (pa_cons (pe_op op_uAdd (pe_op op_fdiv (pe_ix ix_u (pv 0) pe_int (fun _ _ => rfl)) pe_int) (pe_op op_uMul (pe_op op_mod (pe_callTy U.cr_int (by rfl) G.b_int (by first | rfl | kernel_rfl) (pa_cons (pe_ix ix_u (pv 0) pe_int (fun _ _ => rfl)) pa_nil)) pe_int) pe_int)) pa_nil)) (pv 1))))))))
theorem sc__law_pick : FnScope ["jar", "menu"] ["jar", "menu"] (defScope s__law_pick) := ⟨rfl, rfl, rfl, by decide +kernel, rfl, by decide +kernel, by decide +kernel⟩
def t__law_pick (K : PySem.W.Frag) (sp__law_draw : Sp) : TS := (tRet (tOp (uIx K) (tVar 1) (tCall sp__law_draw [] E0 (tCons (tVar 0) (tCons (tCB (uLen K) (tCons (tVar 1) tNil)) tNil)))))
theorem fn__law_pick (G : Glob K mg) {sp__law_draw : Sp} (h__law_draw : Has P w K mg base "_law_draw" 1 ["jar", "edge"] sp__law_draw) {fd : FuncData} (F : FunD K "_law_pick" "_law_pick" (defArgs s__law_pick) (defBody s__law_pick) (defScope s__law_pick) [] [] (He.ga K "_law_pick") fd) {sp : Sp} (len : ∀ vs H Q E, sp vs H Q E → vs.length = 2)
    (rd : ∀ vs H Q E, sp vs H Q E → t__law_pick K sp__law_draw { nx := fun _ H' => Q .non H', rt := Q } (start ["jar", "menu"] vs) H) : Has P w K mg base "_law_pick" 2 ["jar", "menu"] sp := by
  have nd := (sc__law_pick).nd
  refine ⟨G.g__law_pick, F.kp, fd, F.ok sc__law_pick len (fun cdv A outer s H vs Q E hr h => ⟨t__law_pick K sp__law_draw, ?_, rd vs H Q E h⟩), F.bindsN fun _ _ _ _ _ _ us hl => match us, hl with | [_, _], _ => rfl⟩
  refine PSs.nox ?_
  exact (pss_one (ps_ret (pe_ix ix_u (pv 1) (pe_callU h__law_draw hr (by decide) (by rfl) passN (pa_cons (pv 0) (pa_cons (pe_callB cr_len (by rfl) G.b_len (by first | rfl | kernel_rfl) (pa_cons (pv 1) pa_nil)) pa_nil))) (fun _ _ => rfl))))
theorem sc__law_reach : FnScope ["jar", "far"] ["jar", "far"] (defScope s__law_reach) := ⟨rfl, rfl, rfl, by decide +kernel, rfl, by decide +kernel, by decide +kernel⟩
def t__law_reach (K : PySem.W.Frag) (sp__law_draw : Sp) : TS := (tRet (tOp qSub (tCall sp__law_draw [] E0 (tCons (tVar 0) (tCons (tOp (uAdd K) (tOp uMul (tC (.int 2)) (tVar 1)) (tC (.int 1))) tNil))) (tVar 1)))
theorem fn__law_reach (G : Glob K mg) {sp__law_draw : Sp} (h__law_draw : Has P w K mg base "_law_draw" 1 ["jar", "edge"] sp__law_draw) {fd : FuncData} (F : FunD K "_law_reach" "_law_reach" (defArgs s__law_reach) (defBody s__law_reach) (defScope s__law_reach) [] [] (He.ga K "_law_reach") fd) {sp : Sp} (len : ∀ vs H Q E, sp vs H Q E → vs.length = 2)
    (rd : ∀ vs H Q E, sp vs H Q E → t__law_reach K sp__law_draw { nx := fun _ H' => Q .non H', rt := Q } (start ["jar", "far"] vs) H) : Has P w K mg base "_law_reach" 2 ["jar", "far"] sp := by
  have nd := (sc__law_reach).nd
  refine ⟨G.g__law_reach, F.kp, fd, F.ok sc__law_reach len (fun cdv A outer s H vs Q E hr h => ⟨t__law_reach K sp__law_draw, ?_, rd vs H Q E h⟩), F.bindsN fun _ _ _ _ _ _ us hl => match us, hl with | [_, _], _ => rfl⟩
  refine PSs.nox ?_
  exact (pss_one (ps_ret (pe_op op_sub (pe_callU h__law_draw hr (by decide) (by rfl) passN (pa_cons (pv 0) (pa_cons (pe_op op_uAdd (pe_op op_uMul pe_int (pv 1)) pe_int) pa_nil))) (pv 1))))
theorem sc__law_like : FnScope ["told", "due", "i"] ["told", "due"] (defScope s__law_like) := ⟨rfl, rfl, rfl, by decide +kernel, rfl, by decide +kernel, by decide +kernel⟩
def t__law_like (K : PySem.W.Frag) (sp__law_like : Sp) : TS := (tSeq (tIfS (L2.tB (tCB (rIsi K) (tCons (tVar 1) (tCons (tC (.ty "bool")) tNil)))) (tRet (tAndV (tCB (rIsi K) (tCons (tVar 0) (tCons (tC (.ty "bool")) tNil))) (tOp (uEq K) (tVar 0) (tVar 1)))) tNext)
  (tSeq (tIfS (L2.tB (tCB (rIsi K) (tCons (tVar 1) (tCons (tC (.ty "int")) tNil)))) (tRet (tAndV (tCB (rIsi K) (tCons (tVar 0) (tCons (tC (.ty "int")) tNil))) (tAndV (tNotV (tCB (rIsi K) (tCons (tVar 0) (tCons (tC (.ty "bool")) tNil)))) (tOp (uEq K) (tVar 0) (tVar 1))))) tNext)
  (tSeq (tIfS (L2.tB (tCB (rIsi K) (tCons (tVar 1) (tCons (tC (.ty "str")) tNil)))) (tRet (tAndV (tCB (rIsi K) (tCons (tVar 0) (tCons (tC (.ty "str")) tNil))) (tOp (uEq K) (tVar 0) (tVar 1)))) tNext)
  (tSeq (tIfS (tOr (L2.tB (tCB (rIsi K) (tCons (tVar 1) (tCons (tC (.ty "list")) tNil)))) (L2.tB (tCB (rIsi K) (tCons (tVar 1) (tCons (tC (.ty "tuple")) tNil))))) (tSeq (tIfS (tOr (tTest (tOp (uNe K) (tCB (rIsi K) (tCons (tVar 0) (tCons (tC (.ty "list")) tNil))) (tCB (rIsi K) (tCons (tVar 1) (tCons (tC (.ty "list")) tNil))))) (tOr (tTest (tOp (uNe K) (tCB (rIsi K) (tCons (tVar 0) (tCons (tC (.ty "tuple")) tNil))) (tCB (rIsi K) (tCons (tVar 1) (tCons (tC (.ty "tuple")) tNil))))) (tTest (tOp (uNe K) (tCB (uLen K) (tCons (tVar 0) tNil)) (tCB (uLen K) (tCons (tVar 1) tNil)))))) (tRet (tC (.bl false))) tNext)
  (tSeq (tFor (iRng1 (tCons (tCB (uLen K) (tCons (tVar 1) tNil)) tNil)) (gName 2) (tIfS (tNot (L2.tB (tCall sp__law_like [] E0 (tCons (tOp (uIx K) (tVar 0) (tVar 2)) (tCons (tOp (uIx K) (tVar 1) (tVar 2)) tNil))))) (tRet (tC (.bl false))) tNext))
  (tRet (tC (.bl true))))) tNext)
  (tRet (tAndV (tOp rIsN (tVar 1) (tC .non)) (tOp rIsN (tVar 0) (tC .non))))))))
theorem fn__law_like (G : Glob K mg) {lv : Nat} (hlv : 1 ≤ lv) {sp__law_like : Sp} (h__law_like : Has P w K mg base "_law_like" lv ["told", "due"] sp__law_like) {fd : FuncData} (F : FunD K "_law_like" "_law_like" (defArgs s__law_like) (defBody s__law_like) (defScope s__law_like) [] [] (He.ga K "_law_like") fd) {sp : Sp} (len : ∀ vs H Q E, sp vs H Q E → vs.length = 2)
    (rd : ∀ vs H Q E, sp vs H Q E → t__law_like K sp__law_like { nx := fun _ H' => Q .non H', rt := Q } (start ["told", "due", "i"] vs) H) : Has P w K mg base "_law_like" (lv + 1) ["told", "due"] sp := by
  have nd := (sc__law_like).nd
  refine ⟨G.g__law_like, F.kp, fd, F.ok sc__law_like len (fun cdv A outer s H vs Q E hr h => ⟨t__law_like K sp__law_like, ?_, rd vs H Q E h⟩), F.bindsN fun _ _ _ _ _ _ us hl => match us, hl with | [_, _], _ => rfl⟩
  refine PSs.nox ?_
  exact (pss_cons (ps_if (pt_val (pe_callB call_isi (by rfl) G.b_isinstance (by first | rfl | kernel_rfl) (pa_cons (pv 1) (pa_cons (pe_bltn (v := .ty "bool") (by rfl) G.b_bool (by first | rfl | kernel_rfl) rfl) pa_nil)))) (pss_one (ps_ret (pe_and (pe_callB call_isi (by rfl) G.b_isinstance (by first | rfl | kernel_rfl) (pa_cons (pv 0) (pa_cons (pe_bltn (v := .ty "bool") (by rfl) G.b_bool (by first | rfl | kernel_rfl) rfl) pa_nil))) (pe_one (pe_cmpR (op_uEq hr.units) (pv 0) (pv 1) (by rfl)))))) pss_nil)
      (pss_cons (ps_if (pt_val (pe_callB call_isi (by rfl) G.b_isinstance (by first | rfl | kernel_rfl) (pa_cons (pv 1) (pa_cons (pe_bltn (v := .ty "int") (by rfl) G.b_int (by first | rfl | kernel_rfl) rfl) pa_nil)))) (pss_one (ps_ret (pe_and (pe_callB call_isi (by rfl) G.b_isinstance (by first | rfl | kernel_rfl) (pa_cons (pv 0) (pa_cons (pe_bltn (v := .ty "int") (by rfl) G.b_int (by first | rfl | kernel_rfl) rfl) pa_nil))) (pe_and (pe_not (pe_callB call_isi (by rfl) G.b_isinstance (by first | rfl | kernel_rfl) (pa_cons (pv 0) (pa_cons (pe_bltn (v := .ty "bool") (by rfl) G.b_bool (by first | rfl | kernel_rfl) rfl) pa_nil)))) (pe_one (pe_cmpR (op_uEq hr.units) (pv 0) (pv 1) (by rfl))))))) pss_nil)
      (pss_cons (ps_if (pt_val (pe_callB call_isi (by rfl) G.b_isinstance (by first | rfl | kernel_rfl) (pa_cons (pv 1) (pa_cons (pe_bltn (v := .ty "str") (by rfl) G.b_str (by first | rfl | kernel_rfl) rfl) pa_nil)))) (pss_one (ps_ret (pe_and (pe_callB call_isi (by rfl) G.b_isinstance (by first | rfl | kernel_rfl) (pa_cons (pv 0) (pa_cons (pe_bltn (v := .ty "str") (by rfl) G.b_str (by first | rfl | kernel_rfl) rfl) pa_nil))) (pe_one (pe_cmpR (op_uEq hr.units) (pv 0) (pv 1) (by rfl)))))) pss_nil)
      (pss_cons (ps_if ((pw_or (pt_val (pe_callB call_isi (by rfl) G.b_isinstance (by first | rfl | kernel_rfl) (pa_cons (pv 1) (pa_cons (pe_bltn (v := .ty "list") (by rfl) G.b_list (by first | rfl | kernel_rfl) rfl) pa_nil)))) (pw_or1 (pt_val (pe_callB call_isi (by rfl) G.b_isinstance (by first | rfl | kernel_rfl) (pa_cons (pv 1) (pa_cons (pe_bltn (v := .ty "tuple") (by rfl) G.b_tuple (by first | rfl | kernel_rfl) rfl) pa_nil))))))).pt (pss_cons (ps_if ((pw_or (pt_cmpR (op_uNe hr.units) (pe_callB call_isi (by rfl) G.b_isinstance (by first | rfl | kernel_rfl) (pa_cons (pv 0) (pa_cons (pe_bltn (v := .ty "list") (by rfl) G.b_list (by first | rfl | kernel_rfl) rfl) pa_nil))) (pe_callB call_isi (by rfl) G.b_isinstance (by first | rfl | kernel_rfl) (pa_cons (pv 1) (pa_cons (pe_bltn (v := .ty "list") (by rfl) G.b_list (by first | rfl | kernel_rfl) rfl) pa_nil))) (by rfl)) (pw_or (pt_cmpR (op_uNe hr.units) (pe_callB call_isi (by rfl) G.b_isinstance (by first | rfl | kernel_rfl) (pa_cons (pv 0) (pa_cons (pe_bltn (v := .ty "tuple") (by rfl) G.b_tuple (by first | rfl | kernel_rfl) rfl) pa_nil))) (pe_callB call_isi (by rfl) G.b_isinstance (by first | rfl | kernel_rfl) (pa_cons (pv 1) (pa_cons (pe_bltn (v := .ty "tuple") (by rfl) G.b_tuple (by first | rfl | kernel_rfl) rfl) pa_nil))) (by rfl)) (pw_or1 (pt_cmpR (op_uNe hr.units) (pe_callB cr_len (by rfl) G.b_len (by first | rfl | kernel_rfl) (pa_cons (pv 0) pa_nil)) (pe_callB cr_len (by rfl) G.b_len (by first | rfl | kernel_rfl) (pa_cons (pv 1) pa_nil)) (by rfl)))))).pt (pss_one (ps_ret pe_bl)) pss_nil)
      (pss_cons (ps_for PassesOwn.never rfl (pi_range1 (by rfl) G.b_range (pa_cons (pe_callB cr_len (by rfl) G.b_len (by first | rfl | kernel_rfl) (pa_cons (pv 1) pa_nil)) pa_nil)) (pg_name (i := 2) nd rfl (by first | exact Or.inl rfl | exact Or.inr rfl) (by first | exact Or.inl rfl | exact Or.inr rfl)) (pss_one (ps_if (pt_not (pt_val (pe_callU h__law_like hr (by omega) (by rfl) passN (pa_cons (pe_ix ix_u (pv 0) (pv 2) (fun _ _ => rfl)) (pa_cons (pe_ix ix_u (pv 1) (pv 2) (fun _ _ => rfl)) pa_nil))))) (pss_one (ps_ret pe_bl)) pss_nil)))
      (pss_one (ps_ret pe_bl)))) pss_nil)
      (pss_one (ps_ret (pe_and (pe_cmpR op_isN1 (pv 1) pe_non (by rfl)) (pe_one (pe_cmpR op_isN1 (pv 0) pe_non (by rfl))))))))))
theorem sc__law_gcd : FnScope ["x", "y"] ["x", "y"] (defScope s__law_gcd) := ⟨rfl, rfl, rfl, by decide +kernel, rfl, by decide +kernel, by decide +kernel⟩
def t__law_gcd (K : PySem.W.Frag) : TS := (tSeq (tAsg (tCB (uAbs) (tCons (tVar 0) tNil)) (gName 0))
  (tSeq (tAsg (tCB (uAbs) (tCons (tVar 1) tNil)) (gName 1))
  (tSeq (tWhile (tTest (tOp (uNe K) (tVar 1) (tC (.int 0)))) (tPar 0 1 (tCons (tVar 1) (tCons (tOp qMod (tCB (uInt) (tCons (tVar 0) tNil)) (tVar 1)) tNil))))
  (tRet (tVar 0)))))
theorem fn__law_gcd (G : Glob K mg) {fd : FuncData} (F : FunD K "_law_gcd" "_law_gcd" (defArgs s__law_gcd) (defBody s__law_gcd) (defScope s__law_gcd) [] [] (He.ga K "_law_gcd") fd) {sp : Sp} (len : ∀ vs H Q E, sp vs H Q E → vs.length = 2)
    (rd : ∀ vs H Q E, sp vs H Q E → t__law_gcd K { nx := fun _ H' => Q .non H', rt := Q } (start ["x", "y"] vs) H) : Has P w K mg base "_law_gcd" 1 ["x", "y"] sp := by
  have nd := (sc__law_gcd).nd
  refine ⟨G.g__law_gcd, F.kp, fd, F.ok sc__law_gcd len (fun cdv A outer s H vs Q E hr h => ⟨t__law_gcd K, ?_, rd vs H Q E h⟩), F.bindsN fun _ _ _ _ _ _ us hl => match us, hl with | [_, _], _ => rfl⟩
  refine PSs.nox ?_
  exact (pss_cons (ps_set (i := 0) nd rfl (by first | exact Or.inl rfl | exact Or.inr rfl) (pe_callB U.cr_abs (by rfl) G.b_abs (by first | rfl | kernel_rfl) (pa_cons (pv 0) pa_nil)))
      (pss_cons (ps_set (i := 1) nd rfl (by first | exact Or.inl rfl | exact Or.inr rfl) (pe_callB U.cr_abs (by rfl) G.b_abs (by first | rfl | kernel_rfl) (pa_cons (pv 1) pa_nil)))
      (pss_cons (ps_while PassesOwn.never (pt_cmpR (op_uNe hr.units) (pv 1) pe_int (by rfl)) (pss_one (ps_par (i := 0) (j := 1) rfl nd rfl rfl (by decide) (by rfl) (by rfl) (pa_cons (pv 1) (pa_cons (pe_op op_mod (pe_callTy U.cr_int (by rfl) G.b_int (by first | rfl | kernel_rfl) (pa_cons (pv 0) pa_nil)) (pv 1)) pa_nil)) (by first | rfl | kernel_rfl))))
      (pss_one (ps_ret (pv 0))))))
theorem sc__law_low : FnScope ["x", "y", "d"] ["x", "y"] (defScope s__law_low) := ⟨rfl, rfl, rfl, by decide +kernel, rfl, by decide +kernel, by decide +kernel⟩
def t__law_low (K : PySem.W.Frag) (sp__law_gcd : Sp) : TS := (tSeq (tAsg (tCall sp__law_gcd [] E0 (tCons (tVar 0) (tCons (tVar 1) tNil))) (gName 2))
  (tSeq (tIfS (tTest (tOp qLt (tVar 1) (tC (.int 0)))) (tAsg (tOp qSub (tC (.int 0)) (tVar 2)) (gName 2)) tNext)
  (tRet (tTup (tCons (tOp qFdivW (tVar 0) (tVar 2)) (tCons (tOp qFdivW (tVar 1) (tVar 2)) tNil))))))
theorem fn__law_low (G : Glob K mg) {sp__law_gcd : Sp} (h__law_gcd : Has P w K mg base "_law_gcd" 1 ["x", "y"] sp__law_gcd) {fd : FuncData} (F : FunD K "_law_low" "_law_low" (defArgs s__law_low) (defBody s__law_low) (defScope s__law_low) [] [] (He.ga K "_law_low") fd) {sp : Sp} (len : ∀ vs H Q E, sp vs H Q E → vs.length = 2)
    (rd : ∀ vs H Q E, sp vs H Q E → t__law_low K sp__law_gcd { nx := fun _ H' => Q .non H', rt := Q } (start ["x", "y", "d"] vs) H) : Has P w K mg base "_law_low" 2 ["x", "y"] sp := by
  have nd := (sc__law_low).nd
  refine ⟨G.g__law_low, F.kp, fd, F.ok sc__law_low len (fun cdv A outer s H vs Q E hr h => ⟨t__law_low K sp__law_gcd, ?_, rd vs H Q E h⟩), F.bindsN fun _ _ _ _ _ _ us hl => match us, hl with | [_, _], _ => rfl⟩
  refine PSs.nox ?_
  exact (pss_cons (ps_set (i := 2) nd rfl (by first | exact Or.inl rfl | exact Or.inr rfl) (pe_callU h__law_gcd hr (by decide) (by rfl) passN (pa_cons (pv 0) (pa_cons (pv 1) pa_nil))))
      (pss_cons (ps_if (pt_cmpR op_lt (pv 1) pe_int (by rfl)) (pss_one (ps_set (i := 2) nd rfl (by first | exact Or.inl rfl | exact Or.inr rfl) (pe_op op_sub pe_int (pv 2)))) pss_nil)
      (pss_one (ps_ret (pe_tup (pa_cons (pe_op op_fdivW (pv 0) (pv 2)) (pa_cons (pe_op op_fdivW (pv 1) (pv 2)) pa_nil)))))))
theorem sc__law_word : FnScope ["u"] ["u"] (defScope s__law_word) := ⟨rfl, rfl, rfl, by decide +kernel, rfl, by decide +kernel, by decide +kernel⟩
def t__law_word (K : PySem.W.Frag) : TS := (tRet (tIf (tTest (tOp (uEq K) (tOp (uIx K) (tVar 0) (tC (.int 1))) (tC (.int 1)))) (tCB (uStr) (tCons (tOp (uIx K) (tVar 0) (tC (.int 0))) tNil)) (tOp (uAdd K) (tOp (uAdd K) (tCB (uStr) (tCons (tOp (uIx K) (tVar 0) (tC (.int 0))) tNil)) (tC (.str "/"))) (tCB (uStr) (tCons (tOp (uIx K) (tVar 0) (tC (.int 1))) tNil)))))
theorem fn__law_word (G : Glob K mg) {fd : FuncData} (F : FunD K "_law_word" "_law_word" (defArgs s__law_word) (defBody s__law_word) (defScope s__law_word) [] [] (He.ga K "_law_word") fd) {sp : Sp} (len : ∀ vs H Q E, sp vs H Q E → vs.length = 1)
    (rd : ∀ vs H Q E, sp vs H Q E → t__law_word K { nx := fun _ H' => Q .non H', rt := Q } (start ["u"] vs) H) : Has P w K mg base "_law_word" 1 ["u"] sp := by
  have nd := (sc__law_word).nd
  refine ⟨G.g__law_word, F.kp, fd, F.ok sc__law_word len (fun cdv A outer s H vs Q E hr h => ⟨t__law_word K, ?_, rd vs H Q E h⟩), F.bindsN fun _ _ _ _ _ _ us hl => match us, hl with | [_], _ => rfl⟩
  refine PSs.nox ?_
  exact (pss_one (ps_ret (pe_ifExp (pt_cmpR (op_uEq hr.units) (pe_ix ix_u (pv 0) pe_int (fun _ _ => rfl)) pe_int (by rfl)) (pe_callTy U.cr_str (by rfl) G.b_str (by first | rfl | kernel_rfl) (pa_cons (pe_ix ix_u (pv 0) pe_int (fun _ _ => rfl)) pa_nil)) (pe_op op_uAdd (pe_op op_uAdd (pe_callTy U.cr_str (by rfl) G.b_str (by first | rfl | kernel_rfl) (pa_cons (pe_ix ix_u (pv 0) pe_int (fun _ _ => rfl)) pa_nil)) pe_str) (pe_callTy U.cr_str (by rfl) G.b_str (by first | rfl | kernel_rfl) (pa_cons (pe_ix ix_u (pv 0) pe_int (fun _ _ => rfl)) pa_nil))))))
theorem sc__law_digits : FnScope ["word", "sign"] ["word"] (defScope s__law_digits) := ⟨rfl, rfl, rfl, by decide +kernel, rfl, by decide +kernel, by decide +kernel⟩
def t__law_digits (K : PySem.W.Frag) : TS := (tSeq (tIfS (tOr (tTest (tOp (uEq K) (tVar 0) (tC (.str "")))) (tTest (tOp (uNe K) (tLc (iStr (tVar 0)) (gName 1) (tTest (tOp (uIn K true) (tVar 1) (tC (.str "0123456789")))) (tVar 1) [1]) (tLst tNil)))) (tRet (tC (.bl false))) tNext)
  (tRet (tOrV (tOp (uEq K) (tVar 0) (tC (.str "0"))) (tOp (uNe K) (tOp (uIx K) (tVar 0) (tC (.int 0))) (tC (.str "0"))))))
theorem fn__law_digits (G : Glob K mg) {fd : FuncData} (F : FunD K "_law_digits" "_law_digits" (defArgs s__law_digits) (defBody s__law_digits) (defScope s__law_digits) [] [] (He.ga K "_law_digits") fd) {sp : Sp} (len : ∀ vs H Q E, sp vs H Q E → vs.length = 1)
    (rd : ∀ vs H Q E, sp vs H Q E → t__law_digits K { nx := fun _ H' => Q .non H', rt := Q } (start ["word", "sign"] vs) H) : Has P w K mg base "_law_digits" 1 ["word"] sp := by
  have nd := (sc__law_digits).nd
  refine ⟨G.g__law_digits, F.kp, fd, F.ok sc__law_digits len (fun cdv A outer s H vs Q E hr h => ⟨t__law_digits K, ?_, rd vs H Q E h⟩), F.bindsN fun _ _ _ _ _ _ us hl => match us, hl with | [_], _ => rfl⟩
  refine PSs.nox ?_
  exact (pss_cons (ps_if ((pw_or (pt_cmpR (op_uEq hr.units) (pv 0) pe_str (by rfl)) (pw_or1 (pt_cmpR (op_uNe hr.units) (pe_lc (own := [("sign", 1)]) rfl nd (pi_str (pv 0)) (blkOk_by (own := [("sign", 1)]) (by first | decide +kernel | rfl)) (fun _ _ _ _ _ => (pg_name (i := 1) nd rfl (by first | exact Or.inl rfl | exact Or.inr rfl) (by first | exact Or.inl rfl | exact Or.inr rfl))) (fun _ _ _ _ _ => (pts_one (pt_cmpR op_uNotIn (pv 1) pe_str (by rfl)))) (fun _ _ _ _ _ => (pv 1))) (pe_lst pa_nil) (by rfl))))).pt (pss_one (ps_ret pe_bl)) pss_nil)
      (pss_one (ps_ret (pe_or (pe_cmpR (op_uEq hr.units) (pv 0) pe_str (by rfl)) (pe_one (pe_cmpR (op_uNe hr.units) (pe_ix ix_u (pv 0) pe_int (fun _ _ => rfl)) pe_str (by rfl)))))))
theorem sc__law_reads : FnScope ["word", "high", "low", "spot"] ["word"] (defScope s__law_reads) := ⟨rfl, rfl, rfl, by decide +kernel, rfl, by decide +kernel, by decide +kernel⟩
def t__law_reads (K : PySem.W.Frag) (sp__law_digits : Sp) : TS := (tSeq (tAsg (tIf (tTest (tOp (uEq K) (tSl (rSl K) (tVar 0) tNoPart (tPart (tC (.int 1)))) (tC (.str "-")))) (tSl (rSl K) (tVar 0) (tPart (tC (.int 1))) tNoPart) (tVar 0)) (gName 1))
  (tSeq (tAsg (tC (.str "1")) (gName 2))
  (tSeq (tIfS (tTest (tOp (uIn K false) (tC (.str "/")) (tVar 1))) (tSeq (tAsg (tM1 qFind (tVar 1) (tC (.str "/"))) (gName 3))
  (tSeq (tAsg (tSl (rSl K) (tVar 1) (tPart (tOp (uAdd K) (tVar 3) (tC (.int 1)))) tNoPart) (gName 2))
  (tAsg (tSl (rSl K) (tVar 1) tNoPart (tPart (tVar 3))) (gName 1)))) tNext)
  (tSeq (tIfS (tOr (tNot (L2.tB (tCall sp__law_digits [] E0 (tCons (tVar 1) tNil)))) (tOr (tNot (L2.tB (tCall sp__law_digits [] E0 (tCons (tVar 2) tNil)))) (tTest (tOp (uEq K) (tVar 2) (tC (.str "0")))))) (tRet (tC .non)) tNext)
  (tRet (tTup (tCons (tIf (tTest (tOp (uEq K) (tSl (rSl K) (tVar 0) tNoPart (tPart (tC (.int 1)))) (tC (.str "-")))) (tOp qSub (tC (.int 0)) (tCB (uInt) (tCons (tVar 1) tNil))) (tCB (uInt) (tCons (tVar 1) tNil))) (tCons (tCB (uInt) (tCons (tVar 2) tNil)) tNil))))))))
theorem fn__law_reads (G : Glob K mg) {sp__law_digits : Sp} (h__law_digits : Has P w K mg base "_law_digits" 1 ["word"] sp__law_digits) {fd : FuncData} (F : FunD K "_law_reads" "_law_reads" (defArgs s__law_reads) (defBody s__law_reads) (defScope s__law_reads) [] [] (He.ga K "_law_reads") fd) {sp : Sp} (len : ∀ vs H Q E, sp vs H Q E → vs.length = 1)
    (rd : ∀ vs H Q E, sp vs H Q E → t__law_reads K sp__law_digits { nx := fun _ H' => Q .non H', rt := Q } (start ["word", "high", "low", "spot"] vs) H) : Has P w K mg base "_law_reads" 2 ["word"] sp := by
  have nd := (sc__law_reads).nd
  refine ⟨G.g__law_reads, F.kp, fd, F.ok sc__law_reads len (fun cdv A outer s H vs Q E hr h => ⟨t__law_reads K sp__law_digits, ?_, rd vs H Q E h⟩), F.bindsN fun _ _ _ _ _ _ us hl => match us, hl with | [_], _ => rfl⟩
  refine PSs.nox ?_
  exact (pss_cons (ps_set (i := 1) nd rfl (by first | exact Or.inl rfl | exact Or.inr rfl) (pe_ifExp (pt_cmpR (op_uEq hr.units) (pe_slice sl_u (pv 0) po_none (po_some pe_int)) pe_str (by rfl)) (pe_slice sl_u (pv 0) (po_some pe_int) po_none) (pv 0)))
      (pss_cons (ps_set (i := 2) nd rfl (by first | exact Or.inl rfl | exact Or.inr rfl) pe_str)
      (pss_cons (ps_if (pt_cmpR op_uIn pe_str (pv 1) (by rfl)) (pss_cons (ps_set (i := 3) nd rfl (by first | exact Or.inl rfl | exact Or.inr rfl) (pe_find (pv 1) pe_str))
      (pss_cons (ps_set (i := 2) nd rfl (by first | exact Or.inl rfl | exact Or.inr rfl) (pe_slice sl_u (pv 1) (po_some (pe_op op_uAdd (pv 3) pe_int)) po_none))
      (pss_one (ps_set (i := 1) nd rfl (by first | exact Or.inl rfl | exact Or.inr rfl) (pe_slice sl_u (pv 1) po_none (po_some (pv 3))))))) pss_nil)
      (pss_cons (ps_if ((pw_or (pt_not (pt_val (pe_callU h__law_digits hr (by decide) (by rfl) passN (pa_cons (pv 1) pa_nil)))) (pw_or (pt_not (pt_val (pe_callU h__law_digits hr (by decide) (by rfl) passN (pa_cons (pv 2) pa_nil)))) (pw_or1 (pt_cmpR (op_uEq hr.units) (pv 2) pe_str (by rfl)))))).pt (pss_one (ps_ret pe_non)) pss_nil)
      (pss_one (ps_ret (pe_tup (pa_cons (pe_ifExp (pt_cmpR (op_uEq hr.units) (pe_slice sl_u (pv 0) po_none (po_some pe_int)) pe_str (by rfl)) (pe_op op_sub pe_int (pe_callTy U.cr_int (by rfl) G.b_int (by first | rfl | kernel_rfl) (pa_cons (pv 1) pa_nil))) (pe_callTy U.cr_int (by rfl) G.b_int (by first | rfl | kernel_rfl) (pa_cons (pv 1) pa_nil))) (pa_cons (pe_callTy U.cr_int (by rfl) G.b_int (by first | rfl | kernel_rfl) (pa_cons (pv 2) pa_nil)) pa_nil)))))))))
theorem sc__law_due : FnScope ["pair", "most"] ["pair"] (defScope s__law_due) := ⟨rfl, rfl, rfl, by decide +kernel, rfl, by decide +kernel, by decide +kernel⟩
def t__law_due (K : PySem.W.Frag) (sp__law_low : Sp) : TS := (tSeq (tIfS (tTest (tOp rIsN (tVar 0) (tC .non))) (tRet (tLst (tCons (tC (.str "BadNumber")) (tCons (tC (.int 0)) tNil)))) tNext)
  (tSeq (tAsg (tCB (uMax) (tCons (tCB (uLen K) (tCons (tCB (uStr) (tCons (tCB (uAbs) (tCons (tOp (uIx K) (tVar 0) (tC (.int 0))) tNil)) tNil)) tNil)) (tCons (tCB (uLen K) (tCons (tCB (uStr) (tCons (tOp (uIx K) (tVar 0) (tC (.int 1))) tNil)) tNil)) tNil))) (gName 1))
  (tRet (tIf (tTest (tOp qGt (tVar 1) (tC (.int 60)))) (tLst (tCons (tC (.str "TooMany")) (tCons (tC (.str "digits")) (tCons (tVar 1) tNil)))) (tLst (tCons (tC (.str "fine")) (tCons (tCall sp__law_low [] E0 (tCons (tOp (uIx K) (tVar 0) (tC (.int 0))) (tCons (tOp (uIx K) (tVar 0) (tC (.int 1))) tNil))) tNil)))))))
theorem fn__law_due (G : Glob K mg) {sp__law_low : Sp} (h__law_low : Has P w K mg base "_law_low" 2 ["x", "y"] sp__law_low) {fd : FuncData} (F : FunD K "_law_due" "_law_due" (defArgs s__law_due) (defBody s__law_due) (defScope s__law_due) [] [] (He.ga K "_law_due") fd) {sp : Sp} (len : ∀ vs H Q E, sp vs H Q E → vs.length = 1)
    (rd : ∀ vs H Q E, sp vs H Q E → t__law_due K sp__law_low { nx := fun _ H' => Q .non H', rt := Q } (start ["pair", "most"] vs) H) : Has P w K mg base "_law_due" 3 ["pair"] sp := by
  have nd := (sc__law_due).nd
  refine ⟨G.g__law_due, F.kp, fd, F.ok sc__law_due len (fun cdv A outer s H vs Q E hr h => ⟨t__law_due K sp__law_low, ?_, rd vs H Q E h⟩), F.bindsN fun _ _ _ _ _ _ us hl => match us, hl with | [_], _ => rfl⟩
  refine PSs.nox ?_
  exact (pss_cons (ps_if (pt_cmpR op_isN1 (pv 0) pe_non (by rfl)) (pss_one (ps_ret (pe_lst (pa_cons pe_str (pa_cons pe_int pa_nil))))) pss_nil)
      (pss_cons (ps_set (i := 1) nd rfl (by first | exact Or.inl rfl | exact Or.inr rfl) (pe_callB (U.cr_max rfl) (by rfl) G.b_max (by first | rfl | kernel_rfl) (pa_cons (pe_callB cr_len (by rfl) G.b_len (by first | rfl | kernel_rfl) (pa_cons (pe_callTy U.cr_str (by rfl) G.b_str (by first | rfl | kernel_rfl) (pa_cons (pe_callB U.cr_abs (by rfl) G.b_abs (by first | rfl | kernel_rfl) (pa_cons (pe_ix ix_u (pv 0) pe_int (fun _ _ => rfl)) pa_nil)) pa_nil)) pa_nil)) (pa_cons (pe_callB cr_len (by rfl) G.b_len (by first | rfl | kernel_rfl) (pa_cons (pe_callTy U.cr_str (by rfl) G.b_str (by first | rfl | kernel_rfl) (pa_cons (pe_ix ix_u (pv 0) pe_int (fun _ _ => rfl)) pa_nil)) pa_nil)) pa_nil))))
      (pss_one (ps_ret (pe_ifExp (pt_cmpR op_gt (pv 1) pe_int (by rfl)) (pe_lst (pa_cons pe_str (pa_cons pe_str (pa_cons (pv 1) pa_nil)))) (pe_lst (pa_cons pe_str (pa_cons (pe_callU h__law_low hr (by decide) (by rfl) passN (pa_cons (pe_ix ix_u (pv 0) pe_int (fun _ _ => rfl)) (pa_cons (pe_ix ix_u (pv 0) pe_int (fun _ _ => rfl)) pa_nil))) pa_nil))))))))
theorem sc__law_integer : FnScope ["jar"] ["jar"] (defScope s__law_integer) := ⟨rfl, rfl, rfl, by decide +kernel, rfl, by decide +kernel, by decide +kernel⟩
def t__law_integer (K : PySem.W.Frag) (sp__law_draw : Sp) (sp__law_pick : Sp) : TS := (tSeq (tIfS (tTest (tOp (uEq K) (tCall sp__law_draw [] E0 (tCons (tVar 0) (tCons (tC (.int 4)) tNil))) (tC (.int 0)))) (tRet (tOp (uAdd K) (tOp uMul (tCall sp__law_pick [] E0 (tCons (tVar 0) (tCons (tLst (tCons (tOp qPow (tC (.int 10)) (tC (.int 58))) (tCons (tOp qPow (tC (.int 10)) (tC (.int 59))) (tCons (tOp qPow (tC (.int 10)) (tC (.int 60))) (tCons (tOp qPow (tC (.int 10)) (tC (.int 61))) tNil))))) tNil))) (tOp (uAdd K) (tC (.int 1)) (tCall sp__law_draw [] E0 (tCons (tVar 0) (tCons (tC (.int 9)) tNil))))) (tCall sp__law_draw [] E0 (tCons (tVar 0) (tCons (tOp qPow (tC (.int 10)) (tC (.int 6))) tNil))))) tNext)
  (tRet (tOp (uAdd K) (tC (.int 1)) (tCall sp__law_draw [] E0 (tCons (tVar 0) (tCons (tCall sp__law_pick [] E0 (tCons (tVar 0) (tCons (tLst (tCons (tC (.int 3)) (tCons (tC (.int 12)) (tCons (tC (.int 100)) (tCons (tOp qPow (tC (.int 10)) (tC (.int 6))) tNil))))) tNil))) tNil))))))
theorem fn__law_integer (G : Glob K mg) {sp__law_draw : Sp} (h__law_draw : Has P w K mg base "_law_draw" 1 ["jar", "edge"] sp__law_draw) {sp__law_pick : Sp} (h__law_pick : Has P w K mg base "_law_pick" 2 ["jar", "menu"] sp__law_pick) {fd : FuncData} (F : FunD K "_law_integer" "_law_integer" (defArgs s__law_integer) (defBody s__law_integer) (defScope s__law_integer) [] [] (He.ga K "_law_integer") fd) {sp : Sp} (len : ∀ vs H Q E, sp vs H Q E → vs.length = 1)
    (rd : ∀ vs H Q E, sp vs H Q E → t__law_integer K sp__law_draw sp__law_pick { nx := fun _ H' => Q .non H', rt := Q } (start ["jar"] vs) H) : Has P w K mg base "_law_integer" 3 ["jar"] sp := by
  have nd := (sc__law_integer).nd
  refine ⟨G.g__law_integer, F.kp, fd, F.ok sc__law_integer len (fun cdv A outer s H vs Q E hr h => ⟨t__law_integer K sp__law_draw sp__law_pick, ?_, rd vs H Q E h⟩), F.bindsN fun _ _ _ _ _ _ us hl => match us, hl with | [_], _ => rfl⟩
  refine PSs.nox ?_
  exact (pss_cons (ps_if (pt_cmpR (op_uEq hr.units) (pe_callU h__law_draw hr (by decide) (by rfl) passN (pa_cons (pv 0) (pa_cons pe_int pa_nil))) pe_int (by rfl)) (pss_one (ps_ret (pe_op op_uAdd (pe_op op_uMul (pe_callU h__law_pick hr (by decide) (by rfl) passN (pa_cons (pv 0) (pa_cons (pe_lst (pa_cons (pe_op op_pow pe_int pe_int) (pa_cons (pe_op op_pow pe_int pe_int) (pa_cons (pe_op op_pow pe_int pe_int) (pa_cons (pe_op op_pow pe_int pe_int) pa_nil))))) pa_nil))) (pe_op op_uAdd pe_int (pe_callU h__law_draw hr (by decide) (by rfl) passN (pa_cons (pv 0) (pa_cons pe_int pa_nil))))) (pe_callU h__law_draw hr (by decide) (by rfl) passN (pa_cons (pv 0) (pa_cons (pe_op op_pow pe_int pe_int) pa_nil)))))) pss_nil)
      (pss_one (ps_ret (pe_op op_uAdd pe_int (pe_callU h__law_draw hr (by decide) (by rfl) passN (pa_cons (pv 0) (pa_cons (pe_callU h__law_pick hr (by decide) (by rfl) passN (pa_cons (pv 0) (pa_cons (pe_lst (pa_cons pe_int (pa_cons pe_int (pa_cons pe_int (pa_cons (pe_op op_pow pe_int pe_int) pa_nil))))) pa_nil))) pa_nil)))))))
theorem sc__law_thing : FnScope ["jar"] ["jar"] (defScope s__law_thing) := ⟨rfl, rfl, rfl, by decide +kernel, rfl, by decide +kernel, by decide +kernel⟩
def t__law_thing (K : PySem.W.Frag) (sp__law_pick : Sp) : TS := (tRet (tCall sp__law_pick [] E0 (tCons (tVar 0) (tCons (tLst (tCons (tC .non) (tCons (tC (.bl true)) (tCons (tC (.int 0)) (tCons (tC (.int 7)) (tCons (tOp qSub (tC (.int 0)) (tC (.int 3))) (tCons (tC (.str "x")) (tCons (tC (.str "")) (tCons (tTup (tCons (tC (.int 1)) (tCons (tC (.int 2)) tNil))) (tCons (tTup tNil) (tCons (tOp qPow (tC (.int 10)) (tC (.int 20))) (tCons (tC (.str "at")) (tCons (tC (.bl false)) tNil))))))))))))) tNil))))
theorem fn__law_thing (G : Glob K mg) {sp__law_pick : Sp} (h__law_pick : Has P w K mg base "_law_pick" 2 ["jar", "menu"] sp__law_pick) {fd : FuncData} (F : FunD K "_law_thing" "_law_thing" (defArgs s__law_thing) (defBody s__law_thing) (defScope s__law_thing) [] [] (He.ga K "_law_thing") fd) {sp : Sp} (len : ∀ vs H Q E, sp vs H Q E → vs.length = 1)
    (rd : ∀ vs H Q E, sp vs H Q E → t__law_thing K sp__law_pick { nx := fun _ H' => Q .non H', rt := Q } (start ["jar"] vs) H) : Has P w K mg base "_law_thing" 3 ["jar"] sp := by
  have nd := (sc__law_thing).nd
  refine ⟨G.g__law_thing, F.kp, fd, F.ok sc__law_thing len (fun cdv A outer s H vs Q E hr h => ⟨t__law_thing K sp__law_pick, ?_, rd vs H Q E h⟩), F.bindsN fun _ _ _ _ _ _ us hl => match us, hl with | [_], _ => rfl⟩
  refine PSs.nox ?_
  exact (pss_one (ps_ret (pe_callU h__law_pick hr (by decide) (by rfl) passN (pa_cons (pv 0) (pa_cons (pe_lst (pa_cons pe_non (pa_cons pe_bl (pa_cons pe_int (pa_cons pe_int (pa_cons (pe_op op_sub pe_int pe_int) (pa_cons pe_str (pa_cons pe_str (pa_cons (pe_tup (pa_cons pe_int (pa_cons pe_int pa_nil))) (pa_cons (pe_tup pa_nil) (pa_cons (pe_op op_pow pe_int pe_int) (pa_cons pe_str (pa_cons pe_bl pa_nil))))))))))))) pa_nil)))))
end
end K00
end
section
set_option Elab.async false
set_option linter.all false
set_option maxRecDepth 100000
set_option maxHeartbeats 4000000
/-! printed by gen/gen.py: each def, its term and its rule -/
namespace K00
open PySem PySem.Spec PyProof.Rows L2 LamX U L2H HotX LHot LX
section
variable {P : Program} {w : World} {K : PySem.W.Frag} {mg : Str → Option Value} {base : Heap}
theorem sc__law_classes : FnScope ["e", "marks", "tag", "yes"] ["e"] (defScope s__law_classes) := ⟨rfl, rfl, rfl, by decide +kernel, rfl, by decide +kernel, by decide +kernel⟩
def t__law_classes (K : PySem.W.Frag) (D a : Addr) (d : Option Addr) : TS := (tSeq (tAsg (tLst (tCons (tTup (tCons (tC (.str "BadNumber")) (tCons (tCB (rIsX K D a d) (tCons (tVar 0) (tCons (tC (.ref (He.ga K "BadNumber"))) tNil))) tNil))) (tCons (tTup (tCons (tC (.str "BadSum")) (tCons (tCB (rIsX K D a d) (tCons (tVar 0) (tCons (tC (.ref (He.ga K "BadSum"))) tNil))) tNil))) (tCons (tTup (tCons (tC (.str "BadQuotient")) (tCons (tCB (rIsX K D a d) (tCons (tVar 0) (tCons (tC (.ref (He.ga K "BadQuotient"))) tNil))) tNil))) (tCons (tTup (tCons (tC (.str "BadLandscape")) (tCons (tCB (rIsX K D a d) (tCons (tVar 0) (tCons (tC (.ref (He.ga K "BadLandscape"))) tNil))) tNil))) (tCons (tTup (tCons (tC (.str "BadWell")) (tCons (tCB (rIsX K D a d) (tCons (tVar 0) (tCons (tC (.ref (He.ga K "BadWell"))) tNil))) tNil))) (tCons (tTup (tCons (tC (.str "BadWall")) (tCons (tCB (rIsX K D a d) (tCons (tVar 0) (tCons (tC (.ref (He.ga K "BadWall"))) tNil))) tNil))) (tCons (tTup (tCons (tC (.str "BadShape")) (tCons (tCB (rIsX K D a d) (tCons (tVar 0) (tCons (tC (.ref (He.ga K "BadShape"))) tNil))) tNil))) (tCons (tTup (tCons (tC (.str "BadRoll")) (tCons (tCB (rIsX K D a d) (tCons (tVar 0) (tCons (tC (.ref (He.ga K "BadRoll"))) tNil))) tNil))) (tCons (tTup (tCons (tC (.str "BadOperator")) (tCons (tCB (rIsX K D a d) (tCons (tVar 0) (tCons (tC (.ref (He.ga K "BadOperator"))) tNil))) tNil))) (tCons (tTup (tCons (tC (.str "BadSymbol")) (tCons (tCB (rIsX K D a d) (tCons (tVar 0) (tCons (tC (.ref (He.ga K "BadSymbol"))) tNil))) tNil))) (tCons (tTup (tCons (tC (.str "BadStep")) (tCons (tCB (rIsX K D a d) (tCons (tVar 0) (tCons (tC (.ref (He.ga K "BadStep"))) tNil))) tNil))) (tCons (tTup (tCons (tC (.str "BadPaper")) (tCons (tCB (rIsX K D a d) (tCons (tVar 0) (tCons (tC (.ref (He.ga K "BadPaper"))) tNil))) tNil))) (tCons (tTup (tCons (tC (.str "BadName")) (tCons (tCB (rIsX K D a d) (tCons (tVar 0) (tCons (tC (.ref (He.ga K "BadName"))) tNil))) tNil))) (tCons (tTup (tCons (tC (.str "BadScript")) (tCons (tCB (rIsX K D a d) (tCons (tVar 0) (tCons (tC (.ref (He.ga K "BadScript"))) tNil))) tNil))) (tCons (tTup (tCons (tC (.str "Barred")) (tCons (tCB (rIsX K D a d) (tCons (tVar 0) (tCons (tC (.ref (He.ga K "Barred"))) tNil))) tNil))) (tCons (tTup (tCons (tC (.str "Unlike")) (tCons (tCB (rIsX K D a d) (tCons (tVar 0) (tCons (tC (.ref (He.ga K "Unlike"))) tNil))) tNil))) (tCons (tTup (tCons (tC (.str "HasResidue")) (tCons (tCB (rIsX K D a d) (tCons (tVar 0) (tCons (tC (.ref (He.ga K "HasResidue"))) tNil))) tNil))) (tCons (tTup (tCons (tC (.str "NotKept")) (tCons (tCB (rIsX K D a d) (tCons (tVar 0) (tCons (tC (.ref (He.ga K "NotKept"))) tNil))) tNil))) (tCons (tTup (tCons (tC (.str "TooMany")) (tCons (tCB (rIsX K D a d) (tCons (tVar 0) (tCons (tC (.ref (He.ga K "TooMany"))) tNil))) tNil))) (tCons (tTup (tCons (tC (.str "NoSuch")) (tCons (tCB (rIsX K D a d) (tCons (tVar 0) (tCons (tC (.ref (He.ga K "NoSuch"))) tNil))) tNil))) (tCons (tTup (tCons (tC (.str "Ended")) (tCons (tCB (rIsX K D a d) (tCons (tVar 0) (tCons (tC (.ref (He.ga K "Ended"))) tNil))) tNil))) (tCons (tTup (tCons (tC (.str "Refused")) (tCons (tCB (rIsX K D a d) (tCons (tVar 0) (tCons (tC (.ref (He.ga K "Refused"))) tNil))) tNil))) (tCons (tTup (tCons (tC (.str "ValueError")) (tCons (tCB (rIsX K D a d) (tCons (tVar 0) (tCons (tC (.ty "ValueError")) tNil))) tNil))) (tCons (tTup (tCons (tC (.str "LookupError")) (tCons (tCB (rIsX K D a d) (tCons (tVar 0) (tCons (tC (.ty "LookupError")) tNil))) tNil))) (tCons (tTup (tCons (tC (.str "RuntimeError")) (tCons (tCB (rIsX K D a d) (tCons (tVar 0) (tCons (tC (.ty "RuntimeError")) tNil))) tNil))) tNil)))))))))))))))))))))))))) (gName 1))
  (tRet (tLc (iList K (tVar 1)) (gTup K 2 (gCons (gName 2) (gCons (gName 3) gNil))) (tTr K (tVar 3)) (tVar 2) [2, 3])))
theorem fn__law_classes (G : Glob K mg) {fd : FuncData} (F : FunD K "_law_classes" "_law_classes" (defArgs s__law_classes) (defBody s__law_classes) (defScope s__law_classes) [] [] (He.ga K "_law_classes") fd) {sp : SpE} (len : ∀ a c d vs H Q E, sp a c d vs H Q E → vs.length = 1)
    (own : ∀ a c d vs H Q E, sp a c d vs H Q E → ∃ D, c = .ref D ∧ LE.Own K D) (rd : ∀ a D d vs H Q E, sp a (.ref D) d vs H Q E → t__law_classes K D a d { nx := fun _ H' => Q .non H', rt := Q } (start ["e", "marks", "tag", "yes"] vs) H) : HasE P w K mg base "_law_classes" 1 ["e"] sp := by
  have nd := (sc__law_classes).nd
  refine ⟨G.g__law_classes, F.kp, fd, okE F sc__law_classes len (fun cdv A outer s H vs Q E p c d hot hz hf hr h => ?_), F.bindsN fun _ _ _ _ _ _ us hl => match us, hl with | [_], _ => rfl⟩
  obtain ⟨D, rfl, O⟩ := own _ _ _ _ _ _ _ h
  refine ⟨t__law_classes K D p.1 d, ?_, rd _ _ _ vs H Q E h⟩
  have hE := hotE_def (CX := L2N.CX P w) (P := P) (w := w) (K := K) (mg := mg) (base := base) (N := ["e", "marks", "tag", "yes"]) (qual := "_law_classes") (scope := defScope s__law_classes) (f := He.ga K "_law_classes") (cd := cdv) (outer := outer) (s := s) (H := H) (E := E) hot hz
  exact (pss_cons (ps_set (i := 1) nd rfl (by first | exact Or.inl rfl | exact Or.inr rfl) (pe_lst (pa_cons (pe_tup (pa_cons pe_str (pa_cons (pe_callB (call_isX O.exc hE.pin) (by rfl) G.b_isinstance (by first | rfl | kernel_rfl) (pa_cons (pv 0) (pa_cons (pe_glob (by rfl) G.g_BadNumber rfl) pa_nil))) pa_nil))) (pa_cons (pe_tup (pa_cons pe_str (pa_cons (pe_callB (call_isX O.exc hE.pin) (by rfl) G.b_isinstance (by first | rfl | kernel_rfl) (pa_cons (pv 0) (pa_cons (pe_glob (by rfl) G.g_BadSum rfl) pa_nil))) pa_nil))) (pa_cons (pe_tup (pa_cons pe_str (pa_cons (pe_callB (call_isX O.exc hE.pin) (by rfl) G.b_isinstance (by first | rfl | kernel_rfl) (pa_cons (pv 0) (pa_cons (pe_glob (by rfl) G.g_BadQuotient rfl) pa_nil))) pa_nil))) (pa_cons (pe_tup (pa_cons pe_str (pa_cons (pe_callB (call_isX O.exc hE.pin) (by rfl) G.b_isinstance (by first | rfl | kernel_rfl) (pa_cons (pv 0) (pa_cons (pe_glob (by rfl) G.g_BadLandscape rfl) pa_nil))) pa_nil))) (pa_cons (pe_tup (pa_cons pe_str (pa_cons (pe_callB (call_isX O.exc hE.pin) (by rfl) G.b_isinstance (by first | rfl | kernel_rfl) (pa_cons (pv 0) (pa_cons (pe_glob (by rfl) G.g_BadWell rfl) pa_nil))) pa_nil))) (pa_cons (pe_tup (pa_cons pe_str (pa_cons (pe_callB (call_isX O.exc hE.pin) (by rfl) G.b_isinstance (by first | rfl | kernel_rfl) (pa_cons (pv 0) (pa_cons (pe_glob (by rfl) G.g_BadWall rfl) pa_nil))) pa_nil))) (pa_cons (pe_tup (pa_cons pe_str (pa_cons (pe_callB (call_isX O.exc hE.pin) (by rfl) G.b_isinstance (by first | rfl | kernel_rfl) (pa_cons (pv 0) (pa_cons (pe_glob (by rfl) G.g_BadShape rfl) pa_nil))) pa_nil))) (pa_cons (pe_tup (pa_cons pe_str (pa_cons (pe_callB (call_isX O.exc hE.pin) (by rfl) G.b_isinstance (by first | rfl | kernel_rfl) (pa_cons (pv 0) (pa_cons (pe_glob (by rfl) G.g_BadRoll rfl) pa_nil))) pa_nil))) (pa_cons (pe_tup (pa_cons pe_str (pa_cons (pe_callB (call_isX O.exc hE.pin) (by rfl) G.b_isinstance (by first | rfl | kernel_rfl) (pa_cons (pv 0) (pa_cons (pe_glob (by rfl) G.g_BadOperator rfl) pa_nil))) pa_nil))) (pa_cons (pe_tup (pa_cons pe_str (pa_cons (pe_callB (call_isX O.exc hE.pin) (by rfl) G.b_isinstance (by first | rfl | kernel_rfl) (pa_cons (pv 0) (pa_cons (pe_glob (by rfl) G.g_BadSymbol rfl) pa_nil))) pa_nil))) (pa_cons (pe_tup (pa_cons pe_str (pa_cons (pe_callB (call_isX O.exc hE.pin) (by rfl) G.b_isinstance (by first | rfl | kernel_rfl) (pa_cons (pv 0) (pa_cons (pe_glob (by rfl) G.g_BadStep rfl) pa_nil))) pa_nil))) (pa_cons (pe_tup (pa_cons pe_str (pa_cons (pe_callB (call_isX O.exc hE.pin) (by rfl) G.b_isinstance (by first | rfl | kernel_rfl) (pa_cons (pv 0) (pa_cons (pe_glob (by rfl) G.g_BadPaper rfl) pa_nil))) pa_nil))) (pa_cons (pe_tup (pa_cons pe_str (pa_cons (pe_callB (call_isX O.exc hE.pin) (by rfl) G.b_isinstance (by first | rfl | kernel_rfl) (pa_cons (pv 0) (pa_cons (pe_glob (by rfl) G.g_BadName rfl) pa_nil))) pa_nil))) (pa_cons (pe_tup (pa_cons pe_str (pa_cons (pe_callB (call_isX O.exc hE.pin) (by rfl) G.b_isinstance (by first | rfl | kernel_rfl) (pa_cons (pv 0) (pa_cons (pe_glob (by rfl) G.g_BadScript rfl) pa_nil))) pa_nil))) (pa_cons (pe_tup (pa_cons pe_str (pa_cons (pe_callB (call_isX O.exc hE.pin) (by rfl) G.b_isinstance (by first | rfl | kernel_rfl) (pa_cons (pv 0) (pa_cons (pe_glob (by rfl) G.g_Barred rfl) pa_nil))) pa_nil))) (pa_cons (pe_tup (pa_cons pe_str (pa_cons (pe_callB (call_isX O.exc hE.pin) (by rfl) G.b_isinstance (by first | rfl | kernel_rfl) (pa_cons (pv 0) (pa_cons (pe_glob (by rfl) G.g_Unlike rfl) pa_nil))) pa_nil))) (pa_cons (pe_tup (pa_cons pe_str (pa_cons (pe_callB (call_isX O.exc hE.pin) (by rfl) G.b_isinstance (by first | rfl | kernel_rfl) (pa_cons (pv 0) (pa_cons (pe_glob (by rfl) G.g_HasResidue rfl) pa_nil))) pa_nil))) (pa_cons (pe_tup (pa_cons pe_str (pa_cons (pe_callB (call_isX O.exc hE.pin) (by rfl) G.b_isinstance (by first | rfl | kernel_rfl) (pa_cons (pv 0) (pa_cons (pe_glob (by rfl) G.g_NotKept rfl) pa_nil))) pa_nil))) (pa_cons (pe_tup (pa_cons pe_str (pa_cons (pe_callB (call_isX O.exc hE.pin) (by rfl) G.b_isinstance (by first | rfl | kernel_rfl) (pa_cons (pv 0) (pa_cons (pe_glob (by rfl) G.g_TooMany rfl) pa_nil))) pa_nil))) (pa_cons (pe_tup (pa_cons pe_str (pa_cons (pe_callB (call_isX O.exc hE.pin) (by rfl) G.b_isinstance (by first | rfl | kernel_rfl) (pa_cons (pv 0) (pa_cons (pe_glob (by rfl) G.g_NoSuch rfl) pa_nil))) pa_nil))) (pa_cons (pe_tup (pa_cons pe_str (pa_cons (pe_callB (call_isX O.exc hE.pin) (by rfl) G.b_isinstance (by first | rfl | kernel_rfl) (pa_cons (pv 0) (pa_cons (pe_glob (by rfl) G.g_Ended rfl) pa_nil))) pa_nil))) (pa_cons (pe_tup (pa_cons pe_str (pa_cons (pe_callB (call_isX O.exc hE.pin) (by rfl) G.b_isinstance (by first | rfl | kernel_rfl) (pa_cons (pv 0) (pa_cons (pe_glob (by rfl) G.g_Refused rfl) pa_nil))) pa_nil))) (pa_cons (pe_tup (pa_cons pe_str (pa_cons (pe_callB (call_isX O.exc hE.pin) (by rfl) G.b_isinstance (by first | rfl | kernel_rfl) (pa_cons (pv 0) (pa_cons (pe_bltn (v := .ty "ValueError") (by rfl) G.b_ValueError (by first | rfl | kernel_rfl) rfl) pa_nil))) pa_nil))) (pa_cons (pe_tup (pa_cons pe_str (pa_cons (pe_callB (call_isX O.exc hE.pin) (by rfl) G.b_isinstance (by first | rfl | kernel_rfl) (pa_cons (pv 0) (pa_cons (pe_bltn (v := .ty "LookupError") (by rfl) G.b_LookupError (by first | rfl | kernel_rfl) rfl) pa_nil))) pa_nil))) (pa_cons (pe_tup (pa_cons pe_str (pa_cons (pe_callB (call_isX O.exc hE.pin) (by rfl) G.b_isinstance (by first | rfl | kernel_rfl) (pa_cons (pv 0) (pa_cons (pe_bltn (v := .ty "RuntimeError") (by rfl) G.b_RuntimeError (by first | rfl | kernel_rfl) rfl) pa_nil))) pa_nil))) pa_nil)))))))))))))))))))))))))))
      (pss_one (ps_ret (pe_lcB (own := [("tag", 2), ("yes", 3)]) (hotB_of hE.hotC) nd (pi_listB (pv 1)) (blkOk_by (own := [("tag", 2), ("yes", 3)]) (by first | decide +kernel | rfl)) (fun _ _ _ _ _ hb => (pg_tupB hb (pgs_cons (pg_name (i := 2) nd rfl (by first | exact Or.inl rfl | exact Or.inr rfl) (by first | exact Or.inl rfl | exact Or.inr rfl)) (pgs_cons (pg_name (i := 3) nd rfl (by first | exact Or.inl rfl | exact Or.inr rfl) (by first | exact Or.inl rfl | exact Or.inr rfl)) pgs_nil)))) (fun _ _ _ _ _ => (pts_one (pt_tr (pv 3)))) (fun _ _ _ _ _ => (pv 2))))))
theorem sc__law_fields : FnScope ["tag", "e"] ["tag", "e"] (defScope s__law_fields) := ⟨rfl, rfl, rfl, by decide +kernel, rfl, by decide +kernel, by decide +kernel⟩
def t__law_fields (K : PySem.W.Frag) (D a : Addr) (d : Option Addr) : TS := (tSeq (tIfS (tTest (tOp (uIn K false) (tVar 0) (tLst (tCons (tC (.str "BadName")) (tCons (tC (.str "NoSuch")) tNil))))) (tRet (tLst (tCons (tXG K D a d "name" (tVar 1)) tNil))) tNext)
  (tSeq (tIfS (tTest (tOp (uEq K) (tVar 0) (tC (.str "BadScript")))) (tRet (tLst (tCons (tXG K D a d "line" (tVar 1)) tNil))) tNext)
  (tSeq (tIfS (tTest (tOp (uEq K) (tSl (rSl K) (tVar 0) tNoPart (tPart (tC (.int 3)))) (tC (.str "Bad")))) (tRet (tLst (tCons (tXG K D a d "at" (tVar 1)) tNil))) tNext)
  (tSeq (tIfS (tTest (tOp (uEq K) (tVar 0) (tC (.str "Barred")))) (tRet (tLst (tCons (tXG K D a d "kind" (tVar 1)) tNil))) tNext)
  (tSeq (tIfS (tTest (tOp (uIn K false) (tVar 0) (tLst (tCons (tC (.str "Unlike")) (tCons (tC (.str "Ended")) tNil))))) (tRet (tLst (tCons (tXG K D a d "what" (tVar 1)) tNil))) tNext)
  (tSeq (tIfS (tTest (tOp (uIn K false) (tVar 0) (tLst (tCons (tC (.str "HasResidue")) (tCons (tC (.str "NotKept")) tNil))))) (tRet (tLst (tCons (tXG K D a d "wall" (tVar 1)) tNil))) tNext)
  (tRet (tIf (tTest (tOp (uEq K) (tVar 0) (tC (.str "TooMany")))) (tLst (tCons (tXG K D a d "what" (tVar 1)) (tCons (tXG K D a d "count" (tVar 1)) tNil))) (tLst (tCons (tC (.str "no error of the package")) tNil))))))))))
theorem fn__law_fields (G : Glob K mg) {fd : FuncData} (F : FunD K "_law_fields" "_law_fields" (defArgs s__law_fields) (defBody s__law_fields) (defScope s__law_fields) [] [] (He.ga K "_law_fields") fd) {sp : SpE} (len : ∀ a c d vs H Q E, sp a c d vs H Q E → vs.length = 2)
    (own : ∀ a c d vs H Q E, sp a c d vs H Q E → ∃ D, c = .ref D ∧ LE.Own K D) (rd : ∀ a D d vs H Q E, sp a (.ref D) d vs H Q E → t__law_fields K D a d { nx := fun _ H' => Q .non H', rt := Q } (start ["tag", "e"] vs) H) : HasE P w K mg base "_law_fields" 1 ["tag", "e"] sp := by
  have nd := (sc__law_fields).nd
  refine ⟨G.g__law_fields, F.kp, fd, okE F sc__law_fields len (fun cdv A outer s H vs Q E p c d hot hz hf hr h => ?_), F.bindsN fun _ _ _ _ _ _ us hl => match us, hl with | [_, _], _ => rfl⟩
  obtain ⟨D, rfl, O⟩ := own _ _ _ _ _ _ _ h
  refine ⟨t__law_fields K D p.1 d, ?_, rd _ _ _ vs H Q E h⟩
  have hE := hotE_def (CX := L2N.CX P w) (P := P) (w := w) (K := K) (mg := mg) (base := base) (N := ["tag", "e"]) (qual := "_law_fields") (scope := defScope s__law_fields) (f := He.ga K "_law_fields") (cd := cdv) (outer := outer) (s := s) (H := H) (E := E) hot hz
  exact (pss_cons (ps_if (pt_cmpR op_uIn (pv 0) (pe_lst (pa_cons pe_str (pa_cons pe_str pa_nil))) (by rfl)) (pss_one (ps_ret (pe_lst (pa_cons (pe_xG O.xf hE.pin (pv 1)) pa_nil)))) pss_nil)
      (pss_cons (ps_if (pt_cmpR (op_uEq (roomH_units hr)) (pv 0) pe_str (by rfl)) (pss_one (ps_ret (pe_lst (pa_cons (pe_xG O.xf hE.pin (pv 1)) pa_nil)))) pss_nil)
      (pss_cons (ps_if (pt_cmpR (op_uEq (roomH_units hr)) (pe_slice sl_u (pv 0) po_none (po_some pe_int)) pe_str (by rfl)) (pss_one (ps_ret (pe_lst (pa_cons (pe_xG O.xf hE.pin (pv 1)) pa_nil)))) pss_nil)
      (pss_cons (ps_if (pt_cmpR (op_uEq (roomH_units hr)) (pv 0) pe_str (by rfl)) (pss_one (ps_ret (pe_lst (pa_cons (pe_xG O.xf hE.pin (pv 1)) pa_nil)))) pss_nil)
      (pss_cons (ps_if (pt_cmpR op_uIn (pv 0) (pe_lst (pa_cons pe_str (pa_cons pe_str pa_nil))) (by rfl)) (pss_one (ps_ret (pe_lst (pa_cons (pe_xG O.xf hE.pin (pv 1)) pa_nil)))) pss_nil)
      (pss_cons (ps_if (pt_cmpR op_uIn (pv 0) (pe_lst (pa_cons pe_str (pa_cons pe_str pa_nil))) (by rfl)) (pss_one (ps_ret (pe_lst (pa_cons (pe_xG O.xf hE.pin (pv 1)) pa_nil)))) pss_nil)
      (pss_one (ps_ret (pe_ifExp (pt_cmpR (op_uEq (roomH_units hr)) (pv 0) pe_str (by rfl)) (pe_lst (pa_cons (pe_xG O.xf hE.pin (pv 1)) (pa_cons (pe_xG O.xf hE.pin (pv 1)) pa_nil))) (pe_lst (pa_cons pe_str pa_nil)))))))))))
theorem sc__law_parts_of : FnScope ["e", "tags", "tag", "over"] ["e"] (defScope s__law_parts_of) := ⟨rfl, rfl, rfl, by decide +kernel, rfl, by decide +kernel, by decide +kernel⟩
def t__law_parts_of (K : PySem.W.Frag) (D a : Addr) (d : Option Addr) (sp__law_classes : SpE) (sp__law_fields : SpE) : TS := (tSeq (tAsg (tCallE sp__law_classes a (.ref D) d (tCons (tVar 0) tNil)) (gName 1))
  (tSeq (tAsg (tOp (uIx K) (tVar 1) (tC (.int 0))) (gName 2))
  (tSeq (tAsg (tIf (tTest (tOp (uEq K) (tVar 2) (tC (.str "NoSuch")))) (tLst (tCons (tC (.str "LookupError")) tNil)) (tIf (tTest (tOp (uEq K) (tVar 2) (tC (.str "Ended")))) (tLst (tCons (tC (.str "RuntimeError")) tNil)) (tLst (tCons (tC (.str "Refused")) (tCons (tC (.str "ValueError")) tNil))))) (gName 3))
  (tRet (tIf (tTest (tOp (uEq K) (tSl (rSl K) (tVar 1) (tPart (tC (.int 1))) tNoPart) (tVar 3))) (tOp (uAdd K) (tLst (tCons (tVar 2) tNil)) (tCallE sp__law_fields a (.ref D) d (tCons (tVar 2) (tCons (tVar 0) tNil)))) (tLst (tCons (tC (.str "of other classes")) tNil)))))))
theorem fn__law_parts_of (G : Glob K mg) {sp__law_classes : SpE} (h__law_classes : HasE P w K mg base "_law_classes" 1 ["e"] sp__law_classes) {sp__law_fields : SpE} (h__law_fields : HasE P w K mg base "_law_fields" 1 ["tag", "e"] sp__law_fields) {fd : FuncData} (F : FunD K "_law_parts_of" "_law_parts_of" (defArgs s__law_parts_of) (defBody s__law_parts_of) (defScope s__law_parts_of) [] [] (He.ga K "_law_parts_of") fd) {sp : SpE} (len : ∀ a c d vs H Q E, sp a c d vs H Q E → vs.length = 1)
    (own : ∀ a c d vs H Q E, sp a c d vs H Q E → ∃ D, c = .ref D ∧ LE.Own K D) (rd : ∀ a D d vs H Q E, sp a (.ref D) d vs H Q E → t__law_parts_of K D a d sp__law_classes sp__law_fields { nx := fun _ H' => Q .non H', rt := Q } (start ["e", "tags", "tag", "over"] vs) H) : HasE P w K mg base "_law_parts_of" 2 ["e"] sp := by
  have nd := (sc__law_parts_of).nd
  refine ⟨G.g__law_parts_of, F.kp, fd, okE F sc__law_parts_of len (fun cdv A outer s H vs Q E p c d hot hz hf hr h => ?_), F.bindsN fun _ _ _ _ _ _ us hl => match us, hl with | [_], _ => rfl⟩
  obtain ⟨D, rfl, O⟩ := own _ _ _ _ _ _ _ h
  refine ⟨t__law_parts_of K D p.1 d sp__law_classes sp__law_fields, ?_, rd _ _ _ vs H Q E h⟩
  have hE := hotE_def (CX := L2N.CX P w) (P := P) (w := w) (K := K) (mg := mg) (base := base) (N := ["e", "tags", "tag", "over"]) (qual := "_law_parts_of") (scope := defScope s__law_parts_of) (f := He.ga K "_law_parts_of") (cd := cdv) (outer := outer) (s := s) (H := H) (E := E) hot hz
  exact (pss_cons (ps_set (i := 1) nd rfl (by first | exact Or.inl rfl | exact Or.inr rfl) (pe_callUE h__law_classes hr (by decide) hE (by rfl) (pa_cons (pv 0) pa_nil)))
      (pss_cons (ps_set (i := 2) nd rfl (by first | exact Or.inl rfl | exact Or.inr rfl) (pe_ix ix_u (pv 1) pe_int (fun _ _ => rfl)))
      (pss_cons (ps_set (i := 3) nd rfl (by first | exact Or.inl rfl | exact Or.inr rfl) (pe_ifExp (pt_cmpR (op_uEq (roomH_units hr)) (pv 2) pe_str (by rfl)) (pe_lst (pa_cons pe_str pa_nil)) (pe_ifExp (pt_cmpR (op_uEq (roomH_units hr)) (pv 2) pe_str (by rfl)) (pe_lst (pa_cons pe_str pa_nil)) (pe_lst (pa_cons pe_str (pa_cons pe_str pa_nil))))))
      (pss_one (ps_ret (pe_ifExp (pt_cmpR (op_uEq (roomH_units hr)) (pe_slice sl_u (pv 1) (po_some pe_int) po_none) (pv 3) (by rfl)) (pe_op op_uAdd (pe_lst (pa_cons (pv 2) pa_nil)) (pe_callUE h__law_fields hr (by decide) hE (by rfl) (pa_cons (pv 2) (pa_cons (pv 0) pa_nil)))) (pe_lst (pa_cons pe_str pa_nil))))))))
end
end K00
end
section
set_option Elab.async false
set_option linter.all false
set_option maxRecDepth 100000
set_option maxHeartbeats 4000000
/-! printed by gen/gen.py: each def, its term and its rule -/
namespace K00
open PySem PySem.Spec PyProof.Rows L2 LamX U LW
section
variable {P : Program} {w : World} {K : PySem.W.Frag} {mg : Str → Option Value} {base : Heap}
theorem sc__law_classesV : FnScope ["e", "marks", "tag", "yes"] ["e"] (defScope s__law_classes) := ⟨rfl, rfl, rfl, by decide +kernel, rfl, by decide +kernel, by decide +kernel⟩
def t__law_classesV (K : PySem.W.Frag) : TS := (tSeq (tAsg (tLst (tCons (tTup (tCons (tC (.str "BadNumber")) (tCons (tCB (rIsV K) (tCons (tVar 0) (tCons (tC (.ref (He.ga K "BadNumber"))) tNil))) tNil))) (tCons (tTup (tCons (tC (.str "BadSum")) (tCons (tCB (rIsV K) (tCons (tVar 0) (tCons (tC (.ref (He.ga K "BadSum"))) tNil))) tNil))) (tCons (tTup (tCons (tC (.str "BadQuotient")) (tCons (tCB (rIsV K) (tCons (tVar 0) (tCons (tC (.ref (He.ga K "BadQuotient"))) tNil))) tNil))) (tCons (tTup (tCons (tC (.str "BadLandscape")) (tCons (tCB (rIsV K) (tCons (tVar 0) (tCons (tC (.ref (He.ga K "BadLandscape"))) tNil))) tNil))) (tCons (tTup (tCons (tC (.str "BadWell")) (tCons (tCB (rIsV K) (tCons (tVar 0) (tCons (tC (.ref (He.ga K "BadWell"))) tNil))) tNil))) (tCons (tTup (tCons (tC (.str "BadWall")) (tCons (tCB (rIsV K) (tCons (tVar 0) (tCons (tC (.ref (He.ga K "BadWall"))) tNil))) tNil))) (tCons (tTup (tCons (tC (.str "BadShape")) (tCons (tCB (rIsV K) (tCons (tVar 0) (tCons (tC (.ref (He.ga K "BadShape"))) tNil))) tNil))) (tCons (tTup (tCons (tC (.str "BadRoll")) (tCons (tCB (rIsV K) (tCons (tVar 0) (tCons (tC (.ref (He.ga K "BadRoll"))) tNil))) tNil))) (tCons (tTup (tCons (tC (.str "BadOperator")) (tCons (tCB (rIsV K) (tCons (tVar 0) (tCons (tC (.ref (He.ga K "BadOperator"))) tNil))) tNil))) (tCons (tTup (tCons (tC (.str "BadSymbol")) (tCons (tCB (rIsV K) (tCons (tVar 0) (tCons (tC (.ref (He.ga K "BadSymbol"))) tNil))) tNil))) (tCons (tTup (tCons (tC (.str "BadStep")) (tCons (tCB (rIsV K) (tCons (tVar 0) (tCons (tC (.ref (He.ga K "BadStep"))) tNil))) tNil))) (tCons (tTup (tCons (tC (.str "BadPaper")) (tCons (tCB (rIsV K) (tCons (tVar 0) (tCons (tC (.ref (He.ga K "BadPaper"))) tNil))) tNil))) (tCons (tTup (tCons (tC (.str "BadName")) (tCons (tCB (rIsV K) (tCons (tVar 0) (tCons (tC (.ref (He.ga K "BadName"))) tNil))) tNil))) (tCons (tTup (tCons (tC (.str "BadScript")) (tCons (tCB (rIsV K) (tCons (tVar 0) (tCons (tC (.ref (He.ga K "BadScript"))) tNil))) tNil))) (tCons (tTup (tCons (tC (.str "Barred")) (tCons (tCB (rIsV K) (tCons (tVar 0) (tCons (tC (.ref (He.ga K "Barred"))) tNil))) tNil))) (tCons (tTup (tCons (tC (.str "Unlike")) (tCons (tCB (rIsV K) (tCons (tVar 0) (tCons (tC (.ref (He.ga K "Unlike"))) tNil))) tNil))) (tCons (tTup (tCons (tC (.str "HasResidue")) (tCons (tCB (rIsV K) (tCons (tVar 0) (tCons (tC (.ref (He.ga K "HasResidue"))) tNil))) tNil))) (tCons (tTup (tCons (tC (.str "NotKept")) (tCons (tCB (rIsV K) (tCons (tVar 0) (tCons (tC (.ref (He.ga K "NotKept"))) tNil))) tNil))) (tCons (tTup (tCons (tC (.str "TooMany")) (tCons (tCB (rIsV K) (tCons (tVar 0) (tCons (tC (.ref (He.ga K "TooMany"))) tNil))) tNil))) (tCons (tTup (tCons (tC (.str "NoSuch")) (tCons (tCB (rIsV K) (tCons (tVar 0) (tCons (tC (.ref (He.ga K "NoSuch"))) tNil))) tNil))) (tCons (tTup (tCons (tC (.str "Ended")) (tCons (tCB (rIsV K) (tCons (tVar 0) (tCons (tC (.ref (He.ga K "Ended"))) tNil))) tNil))) (tCons (tTup (tCons (tC (.str "Refused")) (tCons (tCB (rIsV K) (tCons (tVar 0) (tCons (tC (.ref (He.ga K "Refused"))) tNil))) tNil))) (tCons (tTup (tCons (tC (.str "ValueError")) (tCons (tCB (rIsV K) (tCons (tVar 0) (tCons (tC (.ty "ValueError")) tNil))) tNil))) (tCons (tTup (tCons (tC (.str "LookupError")) (tCons (tCB (rIsV K) (tCons (tVar 0) (tCons (tC (.ty "LookupError")) tNil))) tNil))) (tCons (tTup (tCons (tC (.str "RuntimeError")) (tCons (tCB (rIsV K) (tCons (tVar 0) (tCons (tC (.ty "RuntimeError")) tNil))) tNil))) tNil)))))))))))))))))))))))))) (gName 1))
  (tRet (tLc (iSeq K (tVar 1)) (gTup K 2 (gCons (gName 2) (gCons (gName 3) gNil))) (tTr K (tVar 3)) (tVar 2) [2, 3])))
theorem fn__law_classesV (G : Glob K mg) {fd : FuncData} (F : FunD K "_law_classes" "_law_classes" (defArgs s__law_classes) (defBody s__law_classes) (defScope s__law_classes) [] [] (He.ga K "_law_classes") fd) {sp : Sp} (len : ∀ vs H Q E, sp vs H Q E → vs.length = 1)
    (rd : ∀ vs H Q E, sp vs H Q E → t__law_classesV K { nx := fun _ H' => Q .non H', rt := Q } (start ["e", "marks", "tag", "yes"] vs) H) : Has P w K mg base "_law_classes" 1 ["e"] sp := by
  have nd := (sc__law_classesV).nd
  refine ⟨G.g__law_classes, F.kp, fd, F.ok sc__law_classesV len (fun cdv A outer s H vs Q E hr h => ⟨t__law_classesV K, ?_, rd vs H Q E h⟩), F.bindsN fun _ _ _ _ _ _ us hl => match us, hl with | [_], _ => rfl⟩
  refine PSs.nox ?_
  exact (pss_cons (ps_set (i := 1) nd rfl (by first | exact Or.inl rfl | exact Or.inr rfl) (pe_lst (pa_cons (pe_tup (pa_cons pe_str (pa_cons (pe_callB call_isV (by rfl) G.b_isinstance (by first | rfl | kernel_rfl) (pa_cons (pv 0) (pa_cons (pe_glob (by rfl) G.g_BadNumber rfl) pa_nil))) pa_nil))) (pa_cons (pe_tup (pa_cons pe_str (pa_cons (pe_callB call_isV (by rfl) G.b_isinstance (by first | rfl | kernel_rfl) (pa_cons (pv 0) (pa_cons (pe_glob (by rfl) G.g_BadSum rfl) pa_nil))) pa_nil))) (pa_cons (pe_tup (pa_cons pe_str (pa_cons (pe_callB call_isV (by rfl) G.b_isinstance (by first | rfl | kernel_rfl) (pa_cons (pv 0) (pa_cons (pe_glob (by rfl) G.g_BadQuotient rfl) pa_nil))) pa_nil))) (pa_cons (pe_tup (pa_cons pe_str (pa_cons (pe_callB call_isV (by rfl) G.b_isinstance (by first | rfl | kernel_rfl) (pa_cons (pv 0) (pa_cons (pe_glob (by rfl) G.g_BadLandscape rfl) pa_nil))) pa_nil))) (pa_cons (pe_tup (pa_cons pe_str (pa_cons (pe_callB call_isV (by rfl) G.b_isinstance (by first | rfl | kernel_rfl) (pa_cons (pv 0) (pa_cons (pe_glob (by rfl) G.g_BadWell rfl) pa_nil))) pa_nil))) (pa_cons (pe_tup (pa_cons pe_str (pa_cons (pe_callB call_isV (by rfl) G.b_isinstance (by first | rfl | kernel_rfl) (pa_cons (pv 0) (pa_cons (pe_glob (by rfl) G.g_BadWall rfl) pa_nil))) pa_nil))) (pa_cons (pe_tup (pa_cons pe_str (pa_cons (pe_callB call_isV (by rfl) G.b_isinstance (by first | rfl | kernel_rfl) (pa_cons (pv 0) (pa_cons (pe_glob (by rfl) G.g_BadShape rfl) pa_nil))) pa_nil))) (pa_cons (pe_tup (pa_cons pe_str (pa_cons (pe_callB call_isV (by rfl) G.b_isinstance (by first | rfl | kernel_rfl) (pa_cons (pv 0) (pa_cons (pe_glob (by rfl) G.g_BadRoll rfl) pa_nil))) pa_nil))) (pa_cons (pe_tup (pa_cons pe_str (pa_cons (pe_callB call_isV (by rfl) G.b_isinstance (by first | rfl | kernel_rfl) (pa_cons (pv 0) (pa_cons (pe_glob (by rfl) G.g_BadOperator rfl) pa_nil))) pa_nil))) (pa_cons (pe_tup (pa_cons pe_str (pa_cons (pe_callB call_isV (by rfl) G.b_isinstance (by first | rfl | kernel_rfl) (pa_cons (pv 0) (pa_cons (pe_glob (by rfl) G.g_BadSymbol rfl) pa_nil))) pa_nil))) (pa_cons (pe_tup (pa_cons pe_str (pa_cons (pe_callB call_isV (by rfl) G.b_isinstance (by first | rfl | kernel_rfl) (pa_cons (pv 0) (pa_cons (pe_glob (by rfl) G.g_BadStep rfl) pa_nil))) pa_nil))) (pa_cons (pe_tup (pa_cons pe_str (pa_cons (pe_callB call_isV (by rfl) G.b_isinstance (by first | rfl | kernel_rfl) (pa_cons (pv 0) (pa_cons (pe_glob (by rfl) G.g_BadPaper rfl) pa_nil))) pa_nil))) (pa_cons (pe_tup (pa_cons pe_str (pa_cons (pe_callB call_isV (by rfl) G.b_isinstance (by first | rfl | kernel_rfl) (pa_cons (pv 0) (pa_cons (pe_glob (by rfl) G.g_BadName rfl) pa_nil))) pa_nil))) (pa_cons (pe_tup (pa_cons pe_str (pa_cons (pe_callB call_isV (by rfl) G.b_isinstance (by first | rfl | kernel_rfl) (pa_cons (pv 0) (pa_cons (pe_glob (by rfl) G.g_BadScript rfl) pa_nil))) pa_nil))) (pa_cons (pe_tup (pa_cons pe_str (pa_cons (pe_callB call_isV (by rfl) G.b_isinstance (by first | rfl | kernel_rfl) (pa_cons (pv 0) (pa_cons (pe_glob (by rfl) G.g_Barred rfl) pa_nil))) pa_nil))) (pa_cons (pe_tup (pa_cons pe_str (pa_cons (pe_callB call_isV (by rfl) G.b_isinstance (by first | rfl | kernel_rfl) (pa_cons (pv 0) (pa_cons (pe_glob (by rfl) G.g_Unlike rfl) pa_nil))) pa_nil))) (pa_cons (pe_tup (pa_cons pe_str (pa_cons (pe_callB call_isV (by rfl) G.b_isinstance (by first | rfl | kernel_rfl) (pa_cons (pv 0) (pa_cons (pe_glob (by rfl) G.g_HasResidue rfl) pa_nil))) pa_nil))) (pa_cons (pe_tup (pa_cons pe_str (pa_cons (pe_callB call_isV (by rfl) G.b_isinstance (by first | rfl | kernel_rfl) (pa_cons (pv 0) (pa_cons (pe_glob (by rfl) G.g_NotKept rfl) pa_nil))) pa_nil))) (pa_cons (pe_tup (pa_cons pe_str (pa_cons (pe_callB call_isV (by rfl) G.b_isinstance (by first | rfl | kernel_rfl) (pa_cons (pv 0) (pa_cons (pe_glob (by rfl) G.g_TooMany rfl) pa_nil))) pa_nil))) (pa_cons (pe_tup (pa_cons pe_str (pa_cons (pe_callB call_isV (by rfl) G.b_isinstance (by first | rfl | kernel_rfl) (pa_cons (pv 0) (pa_cons (pe_glob (by rfl) G.g_NoSuch rfl) pa_nil))) pa_nil))) (pa_cons (pe_tup (pa_cons pe_str (pa_cons (pe_callB call_isV (by rfl) G.b_isinstance (by first | rfl | kernel_rfl) (pa_cons (pv 0) (pa_cons (pe_glob (by rfl) G.g_Ended rfl) pa_nil))) pa_nil))) (pa_cons (pe_tup (pa_cons pe_str (pa_cons (pe_callB call_isV (by rfl) G.b_isinstance (by first | rfl | kernel_rfl) (pa_cons (pv 0) (pa_cons (pe_glob (by rfl) G.g_Refused rfl) pa_nil))) pa_nil))) (pa_cons (pe_tup (pa_cons pe_str (pa_cons (pe_callB call_isV (by rfl) G.b_isinstance (by first | rfl | kernel_rfl) (pa_cons (pv 0) (pa_cons (pe_bltn (v := .ty "ValueError") (by rfl) G.b_ValueError (by first | rfl | kernel_rfl) rfl) pa_nil))) pa_nil))) (pa_cons (pe_tup (pa_cons pe_str (pa_cons (pe_callB call_isV (by rfl) G.b_isinstance (by first | rfl | kernel_rfl) (pa_cons (pv 0) (pa_cons (pe_bltn (v := .ty "LookupError") (by rfl) G.b_LookupError (by first | rfl | kernel_rfl) rfl) pa_nil))) pa_nil))) (pa_cons (pe_tup (pa_cons pe_str (pa_cons (pe_callB call_isV (by rfl) G.b_isinstance (by first | rfl | kernel_rfl) (pa_cons (pv 0) (pa_cons (pe_bltn (v := .ty "RuntimeError") (by rfl) G.b_RuntimeError (by first | rfl | kernel_rfl) rfl) pa_nil))) pa_nil))) pa_nil)))))))))))))))))))))))))))
      (pss_one (ps_ret (pe_lc (own := [("tag", 2), ("yes", 3)]) rfl nd (pi_seq (pv 1)) (blkOk_by (own := [("tag", 2), ("yes", 3)]) (by first | decide +kernel | rfl)) (fun _ _ _ _ _ => (pg_tup rfl (pgs_cons (pg_name (i := 2) nd rfl (by first | exact Or.inl rfl | exact Or.inr rfl) (by first | exact Or.inl rfl | exact Or.inr rfl)) (pgs_cons (pg_name (i := 3) nd rfl (by first | exact Or.inl rfl | exact Or.inr rfl) (by first | exact Or.inl rfl | exact Or.inr rfl)) pgs_nil)))) (fun _ _ _ _ _ => (pts_one (pt_tr (pv 3)))) (fun _ _ _ _ _ => (pv 2))))))
theorem sc__law_fieldsV : FnScope ["tag", "e"] ["tag", "e"] (defScope s__law_fields) := ⟨rfl, rfl, rfl, by decide +kernel, rfl, by decide +kernel, by decide +kernel⟩
def t__law_fieldsV (K : PySem.W.Frag) : TS := (tSeq (tIfS (tTest (tOp (uIn K false) (tVar 0) (tLst (tCons (tC (.str "BadName")) (tCons (tC (.str "NoSuch")) tNil))))) (tRet (tLst (tCons (tVF K "name" (tVar 1)) tNil))) tNext)
  (tSeq (tIfS (tTest (tOp (uEq K) (tVar 0) (tC (.str "BadScript")))) (tRet (tLst (tCons (tVF K "line" (tVar 1)) tNil))) tNext)
  (tSeq (tIfS (tTest (tOp (uEq K) (tSl (rSl K) (tVar 0) tNoPart (tPart (tC (.int 3)))) (tC (.str "Bad")))) (tRet (tLst (tCons (tVF K "at" (tVar 1)) tNil))) tNext)
  (tSeq (tIfS (tTest (tOp (uEq K) (tVar 0) (tC (.str "Barred")))) (tRet (tLst (tCons (tVF K "kind" (tVar 1)) tNil))) tNext)
  (tSeq (tIfS (tTest (tOp (uIn K false) (tVar 0) (tLst (tCons (tC (.str "Unlike")) (tCons (tC (.str "Ended")) tNil))))) (tRet (tLst (tCons (tVF K "what" (tVar 1)) tNil))) tNext)
  (tSeq (tIfS (tTest (tOp (uIn K false) (tVar 0) (tLst (tCons (tC (.str "HasResidue")) (tCons (tC (.str "NotKept")) tNil))))) (tRet (tLst (tCons (tVF K "wall" (tVar 1)) tNil))) tNext)
  (tRet (tIf (tTest (tOp (uEq K) (tVar 0) (tC (.str "TooMany")))) (tLst (tCons (tVF K "what" (tVar 1)) (tCons (tVF K "count" (tVar 1)) tNil))) (tLst (tCons (tC (.str "no error of the package")) tNil))))))))))
theorem fn__law_fieldsV (G : Glob K mg) {fd : FuncData} (F : FunD K "_law_fields" "_law_fields" (defArgs s__law_fields) (defBody s__law_fields) (defScope s__law_fields) [] [] (He.ga K "_law_fields") fd) {sp : Sp} (len : ∀ vs H Q E, sp vs H Q E → vs.length = 2)
    (rd : ∀ vs H Q E, sp vs H Q E → t__law_fieldsV K { nx := fun _ H' => Q .non H', rt := Q } (start ["tag", "e"] vs) H) : Has P w K mg base "_law_fields" 1 ["tag", "e"] sp := by
  have nd := (sc__law_fieldsV).nd
  refine ⟨G.g__law_fields, F.kp, fd, F.ok sc__law_fieldsV len (fun cdv A outer s H vs Q E hr h => ⟨t__law_fieldsV K, ?_, rd vs H Q E h⟩), F.bindsN fun _ _ _ _ _ _ us hl => match us, hl with | [_, _], _ => rfl⟩
  refine PSs.nox ?_
  exact (pss_cons (ps_if (pt_cmpR op_uIn (pv 0) (pe_lst (pa_cons pe_str (pa_cons pe_str pa_nil))) (by rfl)) (pss_one (ps_ret (pe_lst (pa_cons (pe_vF (pv 1)) pa_nil)))) pss_nil)
      (pss_cons (ps_if (pt_cmpR (op_uEq hr.units) (pv 0) pe_str (by rfl)) (pss_one (ps_ret (pe_lst (pa_cons (pe_vF (pv 1)) pa_nil)))) pss_nil)
      (pss_cons (ps_if (pt_cmpR (op_uEq hr.units) (pe_slice sl_u (pv 0) po_none (po_some pe_int)) pe_str (by rfl)) (pss_one (ps_ret (pe_lst (pa_cons (pe_vF (pv 1)) pa_nil)))) pss_nil)
      (pss_cons (ps_if (pt_cmpR (op_uEq hr.units) (pv 0) pe_str (by rfl)) (pss_one (ps_ret (pe_lst (pa_cons (pe_vF (pv 1)) pa_nil)))) pss_nil)
      (pss_cons (ps_if (pt_cmpR op_uIn (pv 0) (pe_lst (pa_cons pe_str (pa_cons pe_str pa_nil))) (by rfl)) (pss_one (ps_ret (pe_lst (pa_cons (pe_vF (pv 1)) pa_nil)))) pss_nil)
      (pss_cons (ps_if (pt_cmpR op_uIn (pv 0) (pe_lst (pa_cons pe_str (pa_cons pe_str pa_nil))) (by rfl)) (pss_one (ps_ret (pe_lst (pa_cons (pe_vF (pv 1)) pa_nil)))) pss_nil)
      (pss_one (ps_ret (pe_ifExp (pt_cmpR (op_uEq hr.units) (pv 0) pe_str (by rfl)) (pe_lst (pa_cons (pe_vF (pv 1)) (pa_cons (pe_vF (pv 1)) pa_nil))) (pe_lst (pa_cons pe_str pa_nil)))))))))))
theorem sc__law_parts_ofV : FnScope ["e", "tags", "tag", "over"] ["e"] (defScope s__law_parts_of) := ⟨rfl, rfl, rfl, by decide +kernel, rfl, by decide +kernel, by decide +kernel⟩
def t__law_parts_ofV (K : PySem.W.Frag) (sp__law_classes : Sp) (sp__law_fields : Sp) : TS := (tSeq (tAsg (tCall sp__law_classes [] E0 (tCons (tVar 0) tNil)) (gName 1))
  (tSeq (tAsg (tOp (uIx K) (tVar 1) (tC (.int 0))) (gName 2))
  (tSeq (tAsg (tIf (tTest (tOp (uEq K) (tVar 2) (tC (.str "NoSuch")))) (tLst (tCons (tC (.str "LookupError")) tNil)) (tIf (tTest (tOp (uEq K) (tVar 2) (tC (.str "Ended")))) (tLst (tCons (tC (.str "RuntimeError")) tNil)) (tLst (tCons (tC (.str "Refused")) (tCons (tC (.str "ValueError")) tNil))))) (gName 3))
  (tRet (tIf (tTest (tOp (uEq K) (tSl (rSl K) (tVar 1) (tPart (tC (.int 1))) tNoPart) (tVar 3))) (tOp (uAdd K) (tLst (tCons (tVar 2) tNil)) (tCall sp__law_fields [] E0 (tCons (tVar 2) (tCons (tVar 0) tNil)))) (tLst (tCons (tC (.str "of other classes")) tNil)))))))
theorem fn__law_parts_ofV (G : Glob K mg) {sp__law_classes : Sp} (h__law_classes : Has P w K mg base "_law_classes" 1 ["e"] sp__law_classes) {sp__law_fields : Sp} (h__law_fields : Has P w K mg base "_law_fields" 1 ["tag", "e"] sp__law_fields) {fd : FuncData} (F : FunD K "_law_parts_of" "_law_parts_of" (defArgs s__law_parts_of) (defBody s__law_parts_of) (defScope s__law_parts_of) [] [] (He.ga K "_law_parts_of") fd) {sp : Sp} (len : ∀ vs H Q E, sp vs H Q E → vs.length = 1)
    (rd : ∀ vs H Q E, sp vs H Q E → t__law_parts_ofV K sp__law_classes sp__law_fields { nx := fun _ H' => Q .non H', rt := Q } (start ["e", "tags", "tag", "over"] vs) H) : Has P w K mg base "_law_parts_of" 2 ["e"] sp := by
  have nd := (sc__law_parts_ofV).nd
  refine ⟨G.g__law_parts_of, F.kp, fd, F.ok sc__law_parts_ofV len (fun cdv A outer s H vs Q E hr h => ⟨t__law_parts_ofV K sp__law_classes sp__law_fields, ?_, rd vs H Q E h⟩), F.bindsN fun _ _ _ _ _ _ us hl => match us, hl with | [_], _ => rfl⟩
  refine PSs.nox ?_
  exact (pss_cons (ps_set (i := 1) nd rfl (by first | exact Or.inl rfl | exact Or.inr rfl) (pe_callU h__law_classes hr (by decide) (by rfl) passN (pa_cons (pv 0) pa_nil)))
      (pss_cons (ps_set (i := 2) nd rfl (by first | exact Or.inl rfl | exact Or.inr rfl) (pe_ix ix_u (pv 1) pe_int (fun _ _ => rfl)))
      (pss_cons (ps_set (i := 3) nd rfl (by first | exact Or.inl rfl | exact Or.inr rfl) (pe_ifExp (pt_cmpR (op_uEq hr.units) (pv 2) pe_str (by rfl)) (pe_lst (pa_cons pe_str pa_nil)) (pe_ifExp (pt_cmpR (op_uEq hr.units) (pv 2) pe_str (by rfl)) (pe_lst (pa_cons pe_str pa_nil)) (pe_lst (pa_cons pe_str (pa_cons pe_str pa_nil))))))
      (pss_one (ps_ret (pe_ifExp (pt_cmpR (op_uEq hr.units) (pe_slice sl_u (pv 1) (po_some pe_int) po_none) (pv 3) (by rfl)) (pe_op op_uAdd (pe_lst (pa_cons (pv 2) pa_nil)) (pe_callU h__law_fields hr (by decide) (by rfl) passN (pa_cons (pv 2) (pa_cons (pv 0) pa_nil)))) (pe_lst (pa_cons pe_str pa_nil))))))))
end
end K00
end
section
set_option Elab.async false
set_option linter.all false
set_option maxRecDepth 100000
set_option maxHeartbeats 4000000
/-! printed by gen/gen.py: each def, its term and its rule -/
namespace K00
open PySem PySem.Spec PyProof.Rows L2 LamX U LW
section
variable {P : Program} {w : World} {K : PySem.W.Frag} {mg : Str → Option Value} {base : Heap}
theorem sc__law_refused : FnScope ["call", "due"] ["call", "due"] (defScope s__law_refused) := ⟨rfl, rfl, rfl, by decide +kernel, rfl, by decide +kernel, by decide +kernel⟩
def t__law_refused (K : PySem.W.Frag) (sp__law_like : Sp) (sp__law_tried : Sp) : TS := (tRet (tCall sp__law_like [] E0 (tCons (tCall sp__law_tried [] E0 (tCons (tVar 0) tNil)) (tCons (tVar 1) tNil))))
theorem fn__law_refused (G : Glob K mg) {sp__law_like : Sp} (h__law_like : Has P w K mg base "_law_like" 5 ["told", "due"] sp__law_like) {sp__law_tried : Sp} (h__law_tried : Has P w K mg base "_law_tried" 9 ["call"] sp__law_tried) {fd : FuncData} (F : FunD K "_law_refused" "_law_refused" (defArgs s__law_refused) (defBody s__law_refused) (defScope s__law_refused) [] [] (He.ga K "_law_refused") fd) {sp : Sp} (len : ∀ vs H Q E, sp vs H Q E → vs.length = 2)
    (rd : ∀ vs H Q E, sp vs H Q E → t__law_refused K sp__law_like sp__law_tried { nx := fun _ H' => Q .non H', rt := Q } (start ["call", "due"] vs) H) : Has P w K mg base "_law_refused" 10 ["call", "due"] sp := by
  have nd := (sc__law_refused).nd
  refine ⟨G.g__law_refused, F.kp, fd, F.ok sc__law_refused len (fun cdv A outer s H vs Q E hr h => ⟨t__law_refused K sp__law_like sp__law_tried, ?_, rd vs H Q E h⟩), F.bindsN fun _ _ _ _ _ _ us hl => match us, hl with | [_, _], _ => rfl⟩
  refine PSs.nox ?_
  exact (pss_one (ps_ret (pe_callU h__law_like hr (by decide) (by rfl) passN (pa_cons (pe_callU h__law_tried hr (by decide) (by rfl) passN (pa_cons (pv 0) pa_nil)) (pa_cons (pv 1) pa_nil)))))
theorem sc__law_forms : FnScope ["jar", "x", "y", "s", "sign"] ["jar"] (defScope s__law_forms) := ⟨rfl, rfl, rfl, by decide +kernel, rfl, by decide +kernel, by decide +kernel⟩
def t__law_forms (K : PySem.W.Frag) (sp__law_integer : Sp) (sp__law_pick : Sp) (sp__law_draw : Sp) (sp__law_asked : Sp) : TS := (tSeq (tAsg (tOp qMulW (tCall sp__law_integer [] E0 (tCons (tVar 0) tNil)) (tCall sp__law_pick [] E0 (tCons (tVar 0) (tCons (tLst (tCons (tC (.int 1)) (tCons (tOp qSub (tC (.int 0)) (tC (.int 1))) tNil))) tNil)))) (gName 1))
  (tSeq (tAsg (tIf (tTest (tOp (uEq K) (tCall sp__law_draw [] E0 (tCons (tVar 0) (tCons (tC (.int 8)) tNil))) (tC (.int 0)))) (tC (.int 0)) (tVar 1)) (gName 1))
  (tSeq (tAsg (tCall sp__law_pick [] E0 (tCons (tVar 0) (tCons (tLst (tCons (tC (.int 1)) (tCons (tC (.int 2)) (tCons (tC (.int 3)) (tCons (tCall sp__law_integer [] E0 (tCons (tVar 0) tNil)) tNil))))) tNil))) (gName 2))
  (tSeq (tAsg (tCall sp__law_pick [] E0 (tCons (tVar 0) (tCons (tLst (tCons (tC (.int 1)) (tCons (tC (.int 1)) (tCons (tC (.int 2)) (tCons (tC (.int 6)) (tCons (tVar 2) tNil)))))) tNil))) (gName 3))
  (tSeq (tAsg (tIf (tTest (tOp qLt (tVar 1) (tC (.int 0)))) (tC (.str "-")) (tC (.str ""))) (gName 4))
  (tSeq (tIfS (tOr (tNot (L2.tB (tCall sp__law_asked [] E0 (tCons (tTup (tCons (tVar 1) (tCons (tVar 2) tNil))) (tCons (tTup (tCons (tVar 1) (tCons (tVar 2) tNil))) tNil))))) (tOr (tNot (L2.tB (tCall sp__law_asked [] E0 (tCons (tTup (tCons (tOp qMulW (tVar 1) (tVar 3)) (tCons (tOp qMulW (tVar 2) (tVar 3)) tNil))) (tCons (tTup (tCons (tOp qMulW (tVar 1) (tVar 3)) (tCons (tOp qMulW (tVar 2) (tVar 3)) tNil))) tNil))))) (tNot (L2.tB (tCall sp__law_asked [] E0 (tCons (tVar 1) (tCons (tTup (tCons (tVar 1) (tCons (tC (.int 1)) tNil))) tNil))))))) (tRet (tC (.bl false))) tNext)
  (tSeq (tIfS (tOr (tNot (L2.tB (tCall sp__law_asked [] E0 (tCons (tOp (uAdd K) (tVar 4) (tCB (uStr) (tCons (tCB (uAbs) (tCons (tVar 1) tNil)) tNil))) (tCons (tTup (tCons (tVar 1) (tCons (tC (.int 1)) tNil))) tNil))))) (tNot (L2.tB (tCall sp__law_asked [] E0 (tCons (tOp (uAdd K) (tOp (uAdd K) (tCB (uStr) (tCons (tOp qMulW (tVar 1) (tVar 3)) tNil)) (tC (.str "/"))) (tCB (uStr) (tCons (tOp qMulW (tVar 2) (tVar 3)) tNil))) (tCons (tTup (tCons (tOp qMulW (tVar 1) (tVar 3)) (tCons (tOp qMulW (tVar 2) (tVar 3)) tNil))) tNil)))))) (tRet (tC (.bl false))) tNext)
  (tRet (tCall sp__law_asked [] E0 (tCons (tOp (uAdd K) (tOp (uAdd K) (tOp (uAdd K) (tC (.str "-")) (tCB (uStr) (tCons (tCB (uAbs) (tCons (tVar 1) tNil)) tNil))) (tC (.str "/"))) (tCB (uStr) (tCons (tVar 2) tNil))) (tCons (tTup (tCons (tOp qSub (tC (.int 0)) (tCB (uAbs) (tCons (tVar 1) tNil))) (tCons (tVar 2) tNil))) tNil)))))))))))
theorem fn__law_forms (G : Glob K mg) {sp__law_integer : Sp} (h__law_integer : Has P w K mg base "_law_integer" 3 ["jar"] sp__law_integer) {sp__law_pick : Sp} (h__law_pick : Has P w K mg base "_law_pick" 2 ["jar", "menu"] sp__law_pick) {sp__law_draw : Sp} (h__law_draw : Has P w K mg base "_law_draw" 1 ["jar", "edge"] sp__law_draw) {sp__law_asked : Sp} (h__law_asked : Has P w K mg base "_law_asked" 12 ["given", "pair"] sp__law_asked) {fd : FuncData} (F : FunD K "_law_forms" "_law_forms" (defArgs s__law_forms) (defBody s__law_forms) (defScope s__law_forms) [] [] (He.ga K "_law_forms") fd) {sp : Sp} (len : ∀ vs H Q E, sp vs H Q E → vs.length = 1)
    (rd : ∀ vs H Q E, sp vs H Q E → t__law_forms K sp__law_integer sp__law_pick sp__law_draw sp__law_asked { nx := fun _ H' => Q .non H', rt := Q } (start ["jar", "x", "y", "s", "sign"] vs) H) : Has P w K mg base "_law_forms" 13 ["jar"] sp := by
  have nd := (sc__law_forms).nd
  refine ⟨G.g__law_forms, F.kp, fd, F.ok sc__law_forms len (fun cdv A outer s H vs Q E hr h => ⟨t__law_forms K sp__law_integer sp__law_pick sp__law_draw sp__law_asked, ?_, rd vs H Q E h⟩), F.bindsN fun _ _ _ _ _ _ us hl => match us, hl with | [_], _ => rfl⟩
  refine PSs.nox ?_
  exact (pss_cons (ps_set (i := 1) nd rfl (by first | exact Or.inl rfl | exact Or.inr rfl) (pe_op op_mulW (pe_callU h__law_integer hr (by decide) (by rfl) passN (pa_cons (pv 0) pa_nil)) (pe_callU h__law_pick hr (by decide) (by rfl) passN (pa_cons (pv 0) (pa_cons (pe_lst (pa_cons pe_int (pa_cons (pe_op op_sub pe_int pe_int) pa_nil))) pa_nil)))))
      (pss_cons (ps_set (i := 1) nd rfl (by first | exact Or.inl rfl | exact Or.inr rfl) (pe_ifExp (pt_cmpR (op_uEq hr.units) (pe_callU h__law_draw hr (by decide) (by rfl) passN (pa_cons (pv 0) (pa_cons pe_int pa_nil))) pe_int (by rfl)) pe_int (pv 1)))
      (pss_cons (ps_set (i := 2) nd rfl (by first | exact Or.inl rfl | exact Or.inr rfl) (pe_callU h__law_pick hr (by decide) (by rfl) passN (pa_cons (pv 0) (pa_cons (pe_lst (pa_cons pe_int (pa_cons pe_int (pa_cons pe_int (pa_cons (pe_callU h__law_integer hr (by decide) (by rfl) passN (pa_cons (pv 0) pa_nil)) pa_nil))))) pa_nil))))
      (pss_cons (ps_set (i := 3) nd rfl (by first | exact Or.inl rfl | exact Or.inr rfl) (pe_callU h__law_pick hr (by decide) (by rfl) passN (pa_cons (pv 0) (pa_cons (pe_lst (pa_cons pe_int (pa_cons pe_int (pa_cons pe_int (pa_cons pe_int (pa_cons (pv 2) pa_nil)))))) pa_nil))))
      (pss_cons (ps_set (i := 4) nd rfl (by first | exact Or.inl rfl | exact Or.inr rfl) (pe_ifExp (pt_cmpR op_lt (pv 1) pe_int (by rfl)) pe_str pe_str))
      (pss_cons (ps_if ((pw_or (pt_not (pt_val (pe_callU h__law_asked hr (by decide) (by rfl) passN (pa_cons (pe_tup (pa_cons (pv 1) (pa_cons (pv 2) pa_nil))) (pa_cons (pe_tup (pa_cons (pv 1) (pa_cons (pv 2) pa_nil))) pa_nil))))) (pw_or (pt_not (pt_val (pe_callU h__law_asked hr (by decide) (by rfl) passN (pa_cons (pe_tup (pa_cons (pe_op op_mulW (pv 1) (pv 3)) (pa_cons (pe_op op_mulW (pv 2) (pv 3)) pa_nil))) (pa_cons (pe_tup (pa_cons (pe_op op_mulW (pv 1) (pv 3)) (pa_cons (pe_op op_mulW (pv 2) (pv 3)) pa_nil))) pa_nil))))) (pw_or1 (pt_not (pt_val (pe_callU h__law_asked hr (by decide) (by rfl) passN (pa_cons (pv 1) (pa_cons (pe_tup (pa_cons (pv 1) (pa_cons pe_int pa_nil))) pa_nil))))))))).pt (pss_one (ps_ret pe_bl)) pss_nil)
      (pss_cons (ps_if ((pw_or (pt_not (pt_val (pe_callU h__law_asked hr (by decide) (by rfl) passN (pa_cons (pe_op op_uAdd (pv 4) (pe_callTy U.cr_str (by rfl) G.b_str (by first | rfl | kernel_rfl) (pa_cons (pe_callB U.cr_abs (by rfl) G.b_abs (by first | rfl | kernel_rfl) (pa_cons (pv 1) pa_nil)) pa_nil))) (pa_cons (pe_tup (pa_cons (pv 1) (pa_cons pe_int pa_nil))) pa_nil))))) (pw_or1 (pt_not (pt_val (pe_callU h__law_asked hr (by decide) (by rfl) passN (pa_cons (pe_op op_uAdd (pe_op op_uAdd (pe_callTy U.cr_str (by rfl) G.b_str (by first | rfl | kernel_rfl) (pa_cons (pe_op op_mulW (pv 1) (pv 3)) pa_nil)) pe_str) (pe_callTy U.cr_str (by rfl) G.b_str (by first | rfl | kernel_rfl) (pa_cons (pe_op op_mulW (pv 2) (pv 3)) pa_nil))) (pa_cons (pe_tup (pa_cons (pe_op op_mulW (pv 1) (pv 3)) (pa_cons (pe_op op_mulW (pv 2) (pv 3)) pa_nil))) pa_nil)))))))).pt (pss_one (ps_ret pe_bl)) pss_nil)
      (pss_one (ps_ret (pe_callU h__law_asked hr (by decide) (by rfl) passN (pa_cons (pe_op op_uAdd (pe_op op_uAdd (pe_op op_uAdd pe_str (pe_callTy U.cr_str (by rfl) G.b_str (by first | rfl | kernel_rfl) (pa_cons (pe_callB U.cr_abs (by rfl) G.b_abs (by first | rfl | kernel_rfl) (pa_cons (pv 1) pa_nil)) pa_nil))) pe_str) (pe_callTy U.cr_str (by rfl) G.b_str (by first | rfl | kernel_rfl) (pa_cons (pv 2) pa_nil))) (pa_cons (pe_tup (pa_cons (pe_op op_sub pe_int (pe_callB U.cr_abs (by rfl) G.b_abs (by first | rfl | kernel_rfl) (pa_cons (pv 1) pa_nil))) (pa_cons (pv 2) pa_nil))) pa_nil))))))))))))
theorem sc__law_bent : FnScope ["jar", "word", "spot", "sign"] ["jar"] (defScope s__law_bent) := ⟨rfl, rfl, rfl, by decide +kernel, rfl, by decide +kernel, by decide +kernel⟩
def t__law_bent (K : PySem.W.Frag) (sp__law_pick : Sp) (sp__law_draw : Sp) (sp__law_asked : Sp) (sp__law_reads : Sp) : TS := (tSeq (tAsg (tOp (uAdd K) (tOp (uAdd K) (tCall sp__law_pick [] E0 (tCons (tVar 0) (tCons (tLst (tCons (tC (.str "")) (tCons (tC (.str "-")) tNil))) tNil))) (tCB (uStr) (tCons (tCall sp__law_draw [] E0 (tCons (tVar 0) (tCons (tC (.int 1000)) tNil))) tNil))) (tCall sp__law_pick [] E0 (tCons (tVar 0) (tCons (tLst (tCons (tC (.str "")) (tCons (tOp (uAdd K) (tC (.str "/")) (tCB (uStr) (tCons (tCall sp__law_draw [] E0 (tCons (tVar 0) (tCons (tC (.int 30)) tNil))) tNil))) tNil))) tNil)))) (gName 1))
  (tSeq (tAsg (tCall sp__law_draw [] E0 (tCons (tVar 0) (tCons (tOp (uAdd K) (tCB (uLen K) (tCons (tVar 1) tNil)) (tC (.int 1))) tNil))) (gName 2))
  (tSeq (tAsg (tCall sp__law_pick [] E0 (tCons (tVar 0) (tCons (tLst (tCons (tC (.str "0")) (tCons (tC (.str "1")) (tCons (tC (.str "-")) (tCons (tC (.str "/")) (tCons (tC (.str " ")) (tCons (tC (.str "+")) (tCons (tC (.str ".")) (tCons (tC (.str "x")) (tCons (tC (.str "e")) (tCons (tC (.str "_")) (tCons (tC (.str ",")) (tCons (tC (.str "(")) (tCons (tC (.str "\n")) (tCons (tC (.str "")) tNil))))))))))))))) tNil))) (gName 3))
  (tSeq (tAsg (tOp (uAdd K) (tOp (uAdd K) (tSl (rSl K) (tVar 1) tNoPart (tPart (tVar 2))) (tVar 3)) (tSl (rSl K) (tVar 1) (tPart (tOp (uAdd K) (tVar 2) (tCall sp__law_draw [] E0 (tCons (tVar 0) (tCons (tC (.int 2)) tNil))))) tNoPart)) (gName 1))
  (tRet (tCall sp__law_asked [] E0 (tCons (tVar 1) (tCons (tCall sp__law_reads [] E0 (tCons (tVar 1) tNil)) tNil))))))))
theorem fn__law_bent (G : Glob K mg) {sp__law_pick : Sp} (h__law_pick : Has P w K mg base "_law_pick" 2 ["jar", "menu"] sp__law_pick) {sp__law_draw : Sp} (h__law_draw : Has P w K mg base "_law_draw" 1 ["jar", "edge"] sp__law_draw) {sp__law_asked : Sp} (h__law_asked : Has P w K mg base "_law_asked" 12 ["given", "pair"] sp__law_asked) {sp__law_reads : Sp} (h__law_reads : Has P w K mg base "_law_reads" 2 ["word"] sp__law_reads) {fd : FuncData} (F : FunD K "_law_bent" "_law_bent" (defArgs s__law_bent) (defBody s__law_bent) (defScope s__law_bent) [] [] (He.ga K "_law_bent") fd) {sp : Sp} (len : ∀ vs H Q E, sp vs H Q E → vs.length = 1)
    (rd : ∀ vs H Q E, sp vs H Q E → t__law_bent K sp__law_pick sp__law_draw sp__law_asked sp__law_reads { nx := fun _ H' => Q .non H', rt := Q } (start ["jar", "word", "spot", "sign"] vs) H) : Has P w K mg base "_law_bent" 13 ["jar"] sp := by
  have nd := (sc__law_bent).nd
  refine ⟨G.g__law_bent, F.kp, fd, F.ok sc__law_bent len (fun cdv A outer s H vs Q E hr h => ⟨t__law_bent K sp__law_pick sp__law_draw sp__law_asked sp__law_reads, ?_, rd vs H Q E h⟩), F.bindsN fun _ _ _ _ _ _ us hl => match us, hl with | [_], _ => rfl⟩
  refine PSs.nox ?_
  exact (pss_cons (ps_set (i := 1) nd rfl (by first | exact Or.inl rfl | exact Or.inr rfl) (pe_op op_uAdd (pe_op op_uAdd (pe_callU h__law_pick hr (by decide) (by rfl) passN (pa_cons (pv 0) (pa_cons (pe_lst (pa_cons pe_str (pa_cons pe_str pa_nil))) pa_nil))) (pe_callTy U.cr_str (by rfl) G.b_str (by first | rfl | kernel_rfl) (pa_cons (pe_callU h__law_draw hr (by decide) (by rfl) passN (pa_cons (pv 0) (pa_cons pe_int pa_nil))) pa_nil))) (pe_callU h__law_pick hr (by decide) (by rfl) passN (pa_cons (pv 0) (pa_cons (pe_lst (pa_cons pe_str (pa_cons (pe_op op_uAdd pe_str (pe_callTy U.cr_str (by rfl) G.b_str (by first | rfl | kernel_rfl) (pa_cons (pe_callU h__law_draw hr (by decide) (by rfl) passN (pa_cons (pv 0) (pa_cons pe_int pa_nil))) pa_nil))) pa_nil))) pa_nil)))))
      (pss_cons (ps_set (i := 2) nd rfl (by first | exact Or.inl rfl | exact Or.inr rfl) (pe_callU h__law_draw hr (by decide) (by rfl) passN (pa_cons (pv 0) (pa_cons (pe_op op_uAdd (pe_callB cr_len (by rfl) G.b_len (by first | rfl | kernel_rfl) (pa_cons (pv 1) pa_nil)) pe_int) pa_nil))))
      (pss_cons (ps_set (i := 3) nd rfl (by first | exact Or.inl rfl | exact Or.inr rfl) (pe_callU h__law_pick hr (by decide) (by rfl) passN (pa_cons (pv 0) (pa_cons (pe_lst (pa_cons pe_str (pa_cons pe_str (pa_cons pe_str (pa_cons pe_str (pa_cons pe_str (pa_cons pe_str (pa_cons pe_str (pa_cons pe_str (pa_cons pe_str (pa_cons pe_str (pa_cons pe_str (pa_cons pe_str (pa_cons pe_str (pa_cons pe_str pa_nil))))))))))))))) pa_nil))))
      (pss_cons (ps_set (i := 1) nd rfl (by first | exact Or.inl rfl | exact Or.inr rfl) (pe_op op_uAdd (pe_op op_uAdd (pe_slice sl_u (pv 1) po_none (po_some (pv 2))) (pv 3)) (pe_slice sl_u (pv 1) (po_some (pe_op op_uAdd (pv 2) (pe_callU h__law_draw hr (by decide) (by rfl) passN (pa_cons (pv 0) (pa_cons pe_int pa_nil))))) po_none)))
      (pss_one (ps_ret (pe_callU h__law_asked hr (by decide) (by rfl) passN (pa_cons (pv 1) (pa_cons (pe_callU h__law_reads hr (by decide) (by rfl) passN (pa_cons (pv 1) pa_nil)) pa_nil)))))))))
theorem sc__law_strange : FnScope ["jar", "x", "menu", "step", "given"] ["jar"] (defScope s__law_strange) := ⟨rfl, rfl, rfl, by decide +kernel, rfl, by decide +kernel, by decide +kernel⟩
def t__law_strange (K : PySem.W.Frag) (sp__law_reach : Sp) (sp__law_pick : Sp) (sp__law_asked : Sp) : TS := (tSeq (tAsg (tCall sp__law_reach [] E0 (tCons (tVar 0) (tCons (tC (.int 20)) tNil))) (gName 1))
  (tSeq (tAsg (tLst (tCons (tC .non) (tCons (tC (.bl true)) (tCons (tC (.bl false)) (tCons (tTup tNil) (tCons (tTup (tCons (tVar 1) tNil)) (tCons (tTup (tCons (tVar 1) (tCons (tC (.int 0)) tNil))) (tCons (tTup (tCons (tVar 1) (tCons (tOp qSub (tC (.int 0)) (tC (.int 2))) tNil))) (tCons (tTup (tCons (tVar 1) (tCons (tC (.int 1)) (tCons (tC (.int 1)) tNil)))) (tCons (tTup (tCons (tC (.bl true)) (tCons (tC (.int 2)) tNil))) (tCons (tTup (tCons (tVar 1) (tCons (tC (.bl true)) tNil))) (tCons (tTup (tCons (tC .non) (tCons (tC (.int 1)) tNil))) (tCons (tTup (tCons (tVar 1) (tCons (tC .non) tNil))) (tCons (tTup (tCons (tC (.str "1")) (tCons (tC (.int 2)) tNil))) (tCons (tTup (tCons (tVar 1) (tCons (tC (.str "2")) tNil))) (tCons (tTup (tCons (tTup (tCons (tVar 1) (tCons (tC (.int 1)) tNil))) (tCons (tC (.int 2)) tNil))) (tCons (tLst tNil) (tCons (tLst (tCons (tVar 1) tNil)) (tCons (tLst (tCons (tVar 1) (tCons (tC (.int 2)) tNil))) (tCons tDNewK (tCons (tDisp [((tC (.int 0)), (tVar 1))]) tNil))))))))))))))))))))) (gName 2))
  (tSeq (tAsg (tOp (uAdd K) (tVar 2) (tLst (tCons (tC (.str "")) (tCons (tC (.str " ")) (tCons (tC (.str "1/0")) (tCons (tC (.str "01")) (tCons (tC (.str " 1")) (tCons (tC (.str "1 ")) (tCons (tC (.str "--1")) (tCons (tC (.str "+1")) (tCons (tC (.str "1/-2")) (tCons (tC (.str "1/02")) (tCons (tC (.str "-")) (tCons (tC (.str "/")) (tCons (tC (.str "1/")) (tCons (tC (.str "/2")) (tCons (tC (.str "1/2/3")) (tCons (tC (.str "one")) (tCons (tC (.str "1.0")) (tCons (tC (.str "- 1")) (tCons (tC (.str "1 /2")) (tCons (tC (.str "0x1")) (tCons (tC (.str "-01")) (tCons (tC (.str "1/00")) (tCons (tTup (tCons (tOp qPow (tC (.int 10)) (tC (.int 61))) (tCons (tC (.int 0)) tNil))) (tCons (tTup (tCons (tOp qPow (tC (.int 10)) (tC (.int 61))) (tCons (tC (.bl true)) tNil))) tNil)))))))))))))))))))))))))) (gName 2))
  (tSeq (tFor (iRng1 (tCons (tC (.int 6)) tNil)) (gName 3) (tSeq (tAsg (tCall sp__law_pick [] E0 (tCons (tVar 0) (tCons (tVar 2) tNil))) (gName 4))
  (tIfS (tNot (L2.tB (tCall sp__law_asked [] E0 (tCons (tVar 4) (tCons (tC .non) tNil))))) (tRet (tC (.bl false))) tNext)))
  (tRet (tC (.bl true)))))))
theorem fn__law_strange (G : Glob K mg) {sp__law_reach : Sp} (h__law_reach : Has P w K mg base "_law_reach" 2 ["jar", "far"] sp__law_reach) {sp__law_pick : Sp} (h__law_pick : Has P w K mg base "_law_pick" 2 ["jar", "menu"] sp__law_pick) {sp__law_asked : Sp} (h__law_asked : Has P w K mg base "_law_asked" 12 ["given", "pair"] sp__law_asked) {fd : FuncData} (F : FunD K "_law_strange" "_law_strange" (defArgs s__law_strange) (defBody s__law_strange) (defScope s__law_strange) [] [] (He.ga K "_law_strange") fd) {sp : Sp} (len : ∀ vs H Q E, sp vs H Q E → vs.length = 1)
    (rd : ∀ vs H Q E, sp vs H Q E → t__law_strange K sp__law_reach sp__law_pick sp__law_asked { nx := fun _ H' => Q .non H', rt := Q } (start ["jar", "x", "menu", "step", "given"] vs) H) : Has P w K mg base "_law_strange" 13 ["jar"] sp := by
  have nd := (sc__law_strange).nd
  refine ⟨G.g__law_strange, F.kp, fd, F.ok sc__law_strange len (fun cdv A outer s H vs Q E hr h => ⟨t__law_strange K sp__law_reach sp__law_pick sp__law_asked, ?_, rd vs H Q E h⟩), F.bindsN fun _ _ _ _ _ _ us hl => match us, hl with | [_], _ => rfl⟩
  refine PSs.nox ?_
  exact (pss_cons (ps_set (i := 1) nd rfl (by first | exact Or.inl rfl | exact Or.inr rfl) (pe_callU h__law_reach hr (by decide) (by rfl) passN (pa_cons (pv 0) (pa_cons pe_int pa_nil))))
      (pss_cons (ps_set (i := 2) nd rfl (by first | exact Or.inl rfl | exact Or.inr rfl) (pe_lst (pa_cons pe_non (pa_cons pe_bl (pa_cons pe_bl (pa_cons (pe_tup pa_nil) (pa_cons (pe_tup (pa_cons (pv 1) pa_nil)) (pa_cons (pe_tup (pa_cons (pv 1) (pa_cons pe_int pa_nil))) (pa_cons (pe_tup (pa_cons (pv 1) (pa_cons (pe_op op_sub pe_int pe_int) pa_nil))) (pa_cons (pe_tup (pa_cons (pv 1) (pa_cons pe_int (pa_cons pe_int pa_nil)))) (pa_cons (pe_tup (pa_cons pe_bl (pa_cons pe_int pa_nil))) (pa_cons (pe_tup (pa_cons (pv 1) (pa_cons pe_bl pa_nil))) (pa_cons (pe_tup (pa_cons pe_non (pa_cons pe_int pa_nil))) (pa_cons (pe_tup (pa_cons (pv 1) (pa_cons pe_non pa_nil))) (pa_cons (pe_tup (pa_cons pe_str (pa_cons pe_int pa_nil))) (pa_cons (pe_tup (pa_cons (pv 1) (pa_cons pe_str pa_nil))) (pa_cons (pe_tup (pa_cons (pe_tup (pa_cons (pv 1) (pa_cons pe_int pa_nil))) (pa_cons pe_int pa_nil))) (pa_cons (pe_lst pa_nil) (pa_cons (pe_lst (pa_cons (pv 1) pa_nil)) (pa_cons (pe_lst (pa_cons (pv 1) (pa_cons pe_int pa_nil))) (pa_cons pe_dnewK (pa_cons (pe_disp (pps_cons pe_int (pv 1) pps_nil) rfl rfl (by decide) (by decide)) pa_nil))))))))))))))))))))))
      (pss_cons (ps_set (i := 2) nd rfl (by first | exact Or.inl rfl | exact Or.inr rfl) (pe_op op_uAdd (pv 2) (pe_lst (pa_cons pe_str (pa_cons pe_str (pa_cons pe_str (pa_cons pe_str (pa_cons pe_str (pa_cons pe_str (pa_cons pe_str (pa_cons pe_str (pa_cons pe_str (pa_cons pe_str (pa_cons pe_str (pa_cons pe_str (pa_cons pe_str (pa_cons pe_str (pa_cons pe_str (pa_cons pe_str (pa_cons pe_str (pa_cons pe_str (pa_cons pe_str (pa_cons pe_str (pa_cons pe_str (pa_cons pe_str (pa_cons (pe_tup (pa_cons (pe_op op_pow pe_int pe_int) (pa_cons pe_int pa_nil))) (pa_cons (pe_tup (pa_cons (pe_op op_pow pe_int pe_int) (pa_cons pe_bl pa_nil))) pa_nil)))))))))))))))))))))))))))
      (pss_cons (ps_for PassesOwn.never rfl (pi_range1 (by rfl) G.b_range (pa_cons pe_int pa_nil)) (pg_name (i := 3) nd rfl (by first | exact Or.inl rfl | exact Or.inr rfl) (by first | exact Or.inl rfl | exact Or.inr rfl)) (pss_cons (ps_set (i := 4) nd rfl (by first | exact Or.inl rfl | exact Or.inr rfl) (pe_callU h__law_pick hr (by decide) (by rfl) passN (pa_cons (pv 0) (pa_cons (pv 2) pa_nil))))
      (pss_one (ps_if (pt_not (pt_val (pe_callU h__law_asked hr (by decide) (by rfl) passN (pa_cons (pv 4) (pa_cons pe_non pa_nil))))) (pss_one (ps_ret pe_bl)) pss_nil))))
      (pss_one (ps_ret pe_bl))))))
theorem sc__law_singles : FnScope ["u", "v", "made", "tags", "i"] ["u", "v"] (defScope s__law_singles) := ⟨rfl, rfl, rfl, by decide +kernel, rfl, by decide +kernel, by decide +kernel⟩
def t__law_singles (K : PySem.W.Frag) (sp__law_like : Sp) (sp__law_parts_of : Sp) : TS := (tSeq (tAsg (tLst (tCons (tNew (He.ga K "BadNumber") ["at"] (fun vs => vs) (tCons (tVar 0) tNil)) (tCons (tNew (He.ga K "BadSum") ["at"] (fun vs => vs) (tCons (tVar 0) tNil)) (tCons (tNew (He.ga K "BadQuotient") ["at"] (fun vs => vs) (tCons (tVar 0) tNil)) (tCons (tNew (He.ga K "BadLandscape") ["at"] (fun vs => vs) (tCons (tVar 0) tNil)) (tCons (tNew (He.ga K "BadWell") ["at"] (fun vs => vs) (tCons (tVar 0) tNil)) (tCons (tNew (He.ga K "BadWall") ["at"] (fun vs => vs) (tCons (tVar 0) tNil)) (tCons (tNew (He.ga K "BadShape") ["at"] (fun vs => vs) (tCons (tVar 0) tNil)) (tCons (tNew (He.ga K "BadRoll") ["at"] (fun vs => vs) (tCons (tVar 0) tNil)) (tCons (tNew (He.ga K "BadOperator") ["at"] (fun vs => vs) (tCons (tVar 0) tNil)) (tCons (tNew (He.ga K "BadSymbol") ["at"] (fun vs => vs) (tCons (tVar 0) tNil)) (tCons (tNew (He.ga K "BadStep") ["at"] (fun vs => vs) (tCons (tVar 0) tNil)) (tCons (tNew (He.ga K "BadPaper") ["at"] (fun vs => vs) (tCons (tVar 0) tNil)) tNil))))))))))))) (gName 2))
  (tSeq (tAsg (tLst (tCons (tC (.str "BadNumber")) (tCons (tC (.str "BadSum")) (tCons (tC (.str "BadQuotient")) (tCons (tC (.str "BadLandscape")) (tCons (tC (.str "BadWell")) (tCons (tC (.str "BadWall")) (tCons (tC (.str "BadShape")) (tCons (tC (.str "BadRoll")) (tCons (tC (.str "BadOperator")) (tCons (tC (.str "BadSymbol")) (tCons (tC (.str "BadStep")) (tCons (tC (.str "BadPaper")) tNil))))))))))))) (gName 3))
  (tSeq (tFor (iRng1 (tCons (tCB (uLen K) (tCons (tVar 3) tNil)) tNil)) (gName 4) (tIfS (tNot (L2.tB (tCall sp__law_like [] E0 (tCons (tCall sp__law_parts_of [] E0 (tCons (tOp (uIx K) (tVar 2) (tVar 4)) tNil)) (tCons (tLst (tCons (tOp (uIx K) (tVar 3) (tVar 4)) (tCons (tVar 0) tNil))) tNil))))) (tRet (tC (.bl false))) tNext))
  (tSeq (tAsg (tLst (tCons (tNew (He.ga K "BadNumber") ["at"] (fun vs => vs) (tCons (tVar 1) tNil)) (tCons (tNew (He.ga K "BadSum") ["at"] (fun vs => vs) (tCons (tVar 1) tNil)) (tCons (tNew (He.ga K "BadQuotient") ["at"] (fun vs => vs) (tCons (tVar 1) tNil)) (tCons (tNew (He.ga K "BadLandscape") ["at"] (fun vs => vs) (tCons (tVar 1) tNil)) (tCons (tNew (He.ga K "BadWell") ["at"] (fun vs => vs) (tCons (tVar 1) tNil)) (tCons (tNew (He.ga K "BadWall") ["at"] (fun vs => vs) (tCons (tVar 1) tNil)) (tCons (tNew (He.ga K "BadShape") ["at"] (fun vs => vs) (tCons (tVar 1) tNil)) (tCons (tNew (He.ga K "BadRoll") ["at"] (fun vs => vs) (tCons (tVar 1) tNil)) (tCons (tNew (He.ga K "BadOperator") ["at"] (fun vs => vs) (tCons (tVar 1) tNil)) (tCons (tNew (He.ga K "BadSymbol") ["at"] (fun vs => vs) (tCons (tVar 1) tNil)) (tCons (tNew (He.ga K "BadStep") ["at"] (fun vs => vs) (tCons (tVar 1) tNil)) (tCons (tNew (He.ga K "BadPaper") ["at"] (fun vs => vs) (tCons (tVar 1) tNil)) tNil))))))))))))) (gName 2))
  (tSeq (tFor (iRng1 (tCons (tCB (uLen K) (tCons (tVar 3) tNil)) tNil)) (gName 4) (tIfS (tNot (L2.tB (tCall sp__law_like [] E0 (tCons (tCall sp__law_parts_of [] E0 (tCons (tOp (uIx K) (tVar 2) (tVar 4)) tNil)) (tCons (tLst (tCons (tOp (uIx K) (tVar 3) (tVar 4)) (tCons (tVar 1) tNil))) tNil))))) (tRet (tC (.bl false))) tNext))
  (tRet (tC (.bl true))))))))
theorem fn__law_singles (G : Glob K mg) {sp__law_like : Sp} (h__law_like : Has P w K mg base "_law_like" 5 ["told", "due"] sp__law_like) {sp__law_parts_of : Sp} (h__law_parts_of : Has P w K mg base "_law_parts_of" 2 ["e"] sp__law_parts_of) (h_BadPaper : LW.HasC P w K mg base "BadPaper" ["at"] ["at"] (fun zs => zs) (fun zs => zs)) (h_BadStep : LW.HasC P w K mg base "BadStep" ["at"] ["at"] (fun zs => zs) (fun zs => zs)) (h_BadSymbol : LW.HasC P w K mg base "BadSymbol" ["at"] ["at"] (fun zs => zs) (fun zs => zs)) (h_BadOperator : LW.HasC P w K mg base "BadOperator" ["at"] ["at"] (fun zs => zs) (fun zs => zs)) (h_BadRoll : LW.HasC P w K mg base "BadRoll" ["at"] ["at"] (fun zs => zs) (fun zs => zs)) (h_BadShape : LW.HasC P w K mg base "BadShape" ["at"] ["at"] (fun zs => zs) (fun zs => zs)) (h_BadWall : LW.HasC P w K mg base "BadWall" ["at"] ["at"] (fun zs => zs) (fun zs => zs)) (h_BadWell : LW.HasC P w K mg base "BadWell" ["at"] ["at"] (fun zs => zs) (fun zs => zs)) (h_BadLandscape : LW.HasC P w K mg base "BadLandscape" ["at"] ["at"] (fun zs => zs) (fun zs => zs)) (h_BadQuotient : LW.HasC P w K mg base "BadQuotient" ["at"] ["at"] (fun zs => zs) (fun zs => zs)) (h_BadSum : LW.HasC P w K mg base "BadSum" ["at"] ["at"] (fun zs => zs) (fun zs => zs)) (h_BadNumber : LW.HasC P w K mg base "BadNumber" ["at"] ["at"] (fun zs => zs) (fun zs => zs)) {fd : FuncData} (F : FunD K "_law_singles" "_law_singles" (defArgs s__law_singles) (defBody s__law_singles) (defScope s__law_singles) [] [] (He.ga K "_law_singles") fd) {sp : Sp} (len : ∀ vs H Q E, sp vs H Q E → vs.length = 2)
    (rd : ∀ vs H Q E, sp vs H Q E → t__law_singles K sp__law_like sp__law_parts_of { nx := fun _ H' => Q .non H', rt := Q } (start ["u", "v", "made", "tags", "i"] vs) H) : Has P w K mg base "_law_singles" 6 ["u", "v"] sp := by
  have nd := (sc__law_singles).nd
  refine ⟨G.g__law_singles, F.kp, fd, F.ok sc__law_singles len (fun cdv A outer s H vs Q E hr h => ⟨t__law_singles K sp__law_like sp__law_parts_of, ?_, rd vs H Q E h⟩), F.bindsN fun _ _ _ _ _ _ us hl => match us, hl with | [_, _], _ => rfl⟩
  refine PSs.nox ?_
  exact (pss_cons (ps_set (i := 2) nd rfl (by first | exact Or.inl rfl | exact Or.inr rfl) (pe_lst (pa_cons (pe_new h_BadNumber hr (by decide) (by rfl) (by decide) (mono_cons mono_var mono_nil) (pa_cons (pv 0) pa_nil)) (pa_cons (pe_new h_BadSum hr (by decide) (by rfl) (by decide) (mono_cons mono_var mono_nil) (pa_cons (pv 0) pa_nil)) (pa_cons (pe_new h_BadQuotient hr (by decide) (by rfl) (by decide) (mono_cons mono_var mono_nil) (pa_cons (pv 0) pa_nil)) (pa_cons (pe_new h_BadLandscape hr (by decide) (by rfl) (by decide) (mono_cons mono_var mono_nil) (pa_cons (pv 0) pa_nil)) (pa_cons (pe_new h_BadWell hr (by decide) (by rfl) (by decide) (mono_cons mono_var mono_nil) (pa_cons (pv 0) pa_nil)) (pa_cons (pe_new h_BadWall hr (by decide) (by rfl) (by decide) (mono_cons mono_var mono_nil) (pa_cons (pv 0) pa_nil)) (pa_cons (pe_new h_BadShape hr (by decide) (by rfl) (by decide) (mono_cons mono_var mono_nil) (pa_cons (pv 0) pa_nil)) (pa_cons (pe_new h_BadRoll hr (by decide) (by rfl) (by decide) (mono_cons mono_var mono_nil) (pa_cons (pv 0) pa_nil)) (pa_cons (pe_new h_BadOperator hr (by decide) (by rfl) (by decide) (mono_cons mono_var mono_nil) (pa_cons (pv 0) pa_nil)) (pa_cons (pe_new h_BadSymbol hr (by decide) (by rfl) (by decide) (mono_cons mono_var mono_nil) (pa_cons (pv 0) pa_nil)) (pa_cons (pe_new h_BadStep hr (by decide) (by rfl) (by decide) (mono_cons mono_var mono_nil) (pa_cons (pv 0) pa_nil)) (pa_cons (pe_new h_BadPaper hr (by decide) (by rfl) (by decide) (mono_cons mono_var mono_nil) (pa_cons (pv 0) pa_nil)) pa_nil))))))))))))))
      (pss_cons (ps_set (i := 3) nd rfl (by first | exact Or.inl rfl | exact Or.inr rfl) (pe_lst (pa_cons pe_str (pa_cons pe_str (pa_cons pe_str (pa_cons pe_str (pa_cons pe_str (pa_cons pe_str (pa_cons pe_str (pa_cons pe_str (pa_cons pe_str (pa_cons pe_str (pa_cons pe_str (pa_cons pe_str pa_nil))))))))))))))
      (pss_cons (ps_for PassesOwn.never rfl (pi_range1 (by rfl) G.b_range (pa_cons (pe_callB cr_len (by rfl) G.b_len (by first | rfl | kernel_rfl) (pa_cons (pv 3) pa_nil)) pa_nil)) (pg_name (i := 4) nd rfl (by first | exact Or.inl rfl | exact Or.inr rfl) (by first | exact Or.inl rfl | exact Or.inr rfl)) (pss_one (ps_if (pt_not (pt_val (pe_callU h__law_like hr (by decide) (by rfl) passN (pa_cons (pe_callU h__law_parts_of hr (by decide) (by rfl) passN (pa_cons (pe_ix ix_u (pv 2) (pv 4) (fun _ _ => rfl)) pa_nil)) (pa_cons (pe_lst (pa_cons (pe_ix ix_u (pv 3) (pv 4) (fun _ _ => rfl)) (pa_cons (pv 0) pa_nil))) pa_nil))))) (pss_one (ps_ret pe_bl)) pss_nil)))
      (pss_cons (ps_set (i := 2) nd rfl (by first | exact Or.inl rfl | exact Or.inr rfl) (pe_lst (pa_cons (pe_newK h_BadNumber hr (by decide) (by rfl) (by decide) rfl (mono_cons mono_var mono_nil) (pk_cons (pv 1) pk_nil)) (pa_cons (pe_newK h_BadSum hr (by decide) (by rfl) (by decide) rfl (mono_cons mono_var mono_nil) (pk_cons (pv 1) pk_nil)) (pa_cons (pe_newK h_BadQuotient hr (by decide) (by rfl) (by decide) rfl (mono_cons mono_var mono_nil) (pk_cons (pv 1) pk_nil)) (pa_cons (pe_newK h_BadLandscape hr (by decide) (by rfl) (by decide) rfl (mono_cons mono_var mono_nil) (pk_cons (pv 1) pk_nil)) (pa_cons (pe_newK h_BadWell hr (by decide) (by rfl) (by decide) rfl (mono_cons mono_var mono_nil) (pk_cons (pv 1) pk_nil)) (pa_cons (pe_newK h_BadWall hr (by decide) (by rfl) (by decide) rfl (mono_cons mono_var mono_nil) (pk_cons (pv 1) pk_nil)) (pa_cons (pe_newK h_BadShape hr (by decide) (by rfl) (by decide) rfl (mono_cons mono_var mono_nil) (pk_cons (pv 1) pk_nil)) (pa_cons (pe_newK h_BadRoll hr (by decide) (by rfl) (by decide) rfl (mono_cons mono_var mono_nil) (pk_cons (pv 1) pk_nil)) (pa_cons (pe_newK h_BadOperator hr (by decide) (by rfl) (by decide) rfl (mono_cons mono_var mono_nil) (pk_cons (pv 1) pk_nil)) (pa_cons (pe_newK h_BadSymbol hr (by decide) (by rfl) (by decide) rfl (mono_cons mono_var mono_nil) (pk_cons (pv 1) pk_nil)) (pa_cons (pe_newK h_BadStep hr (by decide) (by rfl) (by decide) rfl (mono_cons mono_var mono_nil) (pk_cons (pv 1) pk_nil)) (pa_cons (pe_newK h_BadPaper hr (by decide) (by rfl) (by decide) rfl (mono_cons mono_var mono_nil) (pk_cons (pv 1) pk_nil)) pa_nil))))))))))))))
      (pss_cons (ps_for PassesOwn.never rfl (pi_range1 (by rfl) G.b_range (pa_cons (pe_callB cr_len (by rfl) G.b_len (by first | rfl | kernel_rfl) (pa_cons (pv 3) pa_nil)) pa_nil)) (pg_name (i := 4) nd rfl (by first | exact Or.inl rfl | exact Or.inr rfl) (by first | exact Or.inl rfl | exact Or.inr rfl)) (pss_one (ps_if (pt_not (pt_val (pe_callU h__law_like hr (by decide) (by rfl) passN (pa_cons (pe_callU h__law_parts_of hr (by decide) (by rfl) passN (pa_cons (pe_ix ix_u (pv 2) (pv 4) (fun _ _ => rfl)) pa_nil)) (pa_cons (pe_lst (pa_cons (pe_ix ix_u (pv 3) (pv 4) (fun _ _ => rfl)) (pa_cons (pv 1) pa_nil))) pa_nil))))) (pss_one (ps_ret pe_bl)) pss_nil)))
      (pss_one (ps_ret pe_bl)))))))
theorem sc__law_others : FnScope ["u", "v", "made", "tags", "i"] ["u", "v"] (defScope s__law_others) := ⟨rfl, rfl, rfl, by decide +kernel, rfl, by decide +kernel, by decide +kernel⟩
def t__law_others (K : PySem.W.Frag) (sp__law_like : Sp) (sp__law_parts_of : Sp) : TS := (tSeq (tAsg (tLst (tCons (tNew (He.ga K "BadName") ["name"] (fun vs => vs) (tCons (tVar 0) tNil)) (tCons (tNew (He.ga K "BadScript") ["line"] (fun vs => vs) (tCons (tVar 0) tNil)) (tCons (tNew (He.ga K "Barred") ["kind"] (fun vs => vs) (tCons (tVar 0) tNil)) (tCons (tNew (He.ga K "Unlike") ["what"] (fun vs => vs) (tCons (tVar 0) tNil)) (tCons (tNew (He.ga K "HasResidue") ["wall"] (fun vs => vs) (tCons (tVar 0) tNil)) (tCons (tNew (He.ga K "NotKept") ["wall"] (fun vs => vs) (tCons (tVar 0) tNil)) (tCons (tNew (He.ga K "NoSuch") ["name"] (fun vs => vs) (tCons (tVar 0) tNil)) (tCons (tNew (He.ga K "Ended") ["what"] (fun vs => vs) (tCons (tVar 0) tNil)) tNil))))))))) (gName 2))
  (tSeq (tAsg (tLst (tCons (tC (.str "BadName")) (tCons (tC (.str "BadScript")) (tCons (tC (.str "Barred")) (tCons (tC (.str "Unlike")) (tCons (tC (.str "HasResidue")) (tCons (tC (.str "NotKept")) (tCons (tC (.str "NoSuch")) (tCons (tC (.str "Ended")) tNil))))))))) (gName 3))
  (tSeq (tFor (iRng1 (tCons (tCB (uLen K) (tCons (tVar 3) tNil)) tNil)) (gName 4) (tIfS (tNot (L2.tB (tCall sp__law_like [] E0 (tCons (tCall sp__law_parts_of [] E0 (tCons (tOp (uIx K) (tVar 2) (tVar 4)) tNil)) (tCons (tLst (tCons (tOp (uIx K) (tVar 3) (tVar 4)) (tCons (tVar 0) tNil))) tNil))))) (tRet (tC (.bl false))) tNext))
  (tSeq (tAsg (tLst (tCons (tNew (He.ga K "BadName") ["name"] (fun vs => vs) (tCons (tVar 1) tNil)) (tCons (tNew (He.ga K "BadScript") ["line"] (fun vs => vs) (tCons (tVar 1) tNil)) (tCons (tNew (He.ga K "Barred") ["kind"] (fun vs => vs) (tCons (tVar 1) tNil)) (tCons (tNew (He.ga K "Unlike") ["what"] (fun vs => vs) (tCons (tVar 1) tNil)) (tCons (tNew (He.ga K "HasResidue") ["wall"] (fun vs => vs) (tCons (tVar 1) tNil)) (tCons (tNew (He.ga K "NotKept") ["wall"] (fun vs => vs) (tCons (tVar 1) tNil)) (tCons (tNew (He.ga K "NoSuch") ["name"] (fun vs => vs) (tCons (tVar 1) tNil)) (tCons (tNew (He.ga K "Ended") ["what"] (fun vs => vs) (tCons (tVar 1) tNil)) tNil))))))))) (gName 2))
  (tSeq (tFor (iRng1 (tCons (tCB (uLen K) (tCons (tVar 3) tNil)) tNil)) (gName 4) (tIfS (tNot (L2.tB (tCall sp__law_like [] E0 (tCons (tCall sp__law_parts_of [] E0 (tCons (tOp (uIx K) (tVar 2) (tVar 4)) tNil)) (tCons (tLst (tCons (tOp (uIx K) (tVar 3) (tVar 4)) (tCons (tVar 1) tNil))) tNil))))) (tRet (tC (.bl false))) tNext))
  (tRet (tAndV (tCall sp__law_like [] E0 (tCons (tCall sp__law_parts_of [] E0 (tCons (tNew (He.ga K "TooMany") ["what", "count"] (fun vs => vs) (tCons (tVar 0) (tCons (tVar 1) tNil))) tNil)) (tCons (tLst (tCons (tC (.str "TooMany")) (tCons (tVar 0) (tCons (tVar 1) tNil)))) tNil))) (tCall sp__law_like [] E0 (tCons (tCall sp__law_parts_of [] E0 (tCons (tNew (He.ga K "TooMany") ["what", "count"] List.reverse (tCons (tVar 0) (tCons (tVar 1) tNil))) tNil)) (tCons (tLst (tCons (tC (.str "TooMany")) (tCons (tVar 1) (tCons (tVar 0) tNil)))) tNil))))))))))
theorem fn__law_others (G : Glob K mg) {sp__law_like : Sp} (h__law_like : Has P w K mg base "_law_like" 5 ["told", "due"] sp__law_like) {sp__law_parts_of : Sp} (h__law_parts_of : Has P w K mg base "_law_parts_of" 2 ["e"] sp__law_parts_of) (h_Ended : LW.HasC P w K mg base "Ended" ["what"] ["what"] (fun zs => zs) (fun zs => zs)) (h_NoSuch : LW.HasC P w K mg base "NoSuch" ["name"] ["name"] (fun zs => zs) (fun zs => zs)) (h_NotKept : LW.HasC P w K mg base "NotKept" ["wall"] ["wall"] (fun zs => zs) (fun zs => zs)) (h_HasResidue : LW.HasC P w K mg base "HasResidue" ["wall"] ["wall"] (fun zs => zs) (fun zs => zs)) (h_Unlike : LW.HasC P w K mg base "Unlike" ["what"] ["what"] (fun zs => zs) (fun zs => zs)) (h_Barred : LW.HasC P w K mg base "Barred" ["kind"] ["kind"] (fun zs => zs) (fun zs => zs)) (h_BadScript : LW.HasC P w K mg base "BadScript" ["line"] ["line"] (fun zs => zs) (fun zs => zs)) (h_BadName : LW.HasC P w K mg base "BadName" ["name"] ["name"] (fun zs => zs) (fun zs => zs)) (h_TooMany : LW.HasC P w K mg base "TooMany" ["what", "count"] ["count", "what"] List.reverse List.reverse) {fd : FuncData} (F : FunD K "_law_others" "_law_others" (defArgs s__law_others) (defBody s__law_others) (defScope s__law_others) [] [] (He.ga K "_law_others") fd) {sp : Sp} (len : ∀ vs H Q E, sp vs H Q E → vs.length = 2)
    (rd : ∀ vs H Q E, sp vs H Q E → t__law_others K sp__law_like sp__law_parts_of { nx := fun _ H' => Q .non H', rt := Q } (start ["u", "v", "made", "tags", "i"] vs) H) : Has P w K mg base "_law_others" 6 ["u", "v"] sp := by
  have nd := (sc__law_others).nd
  refine ⟨G.g__law_others, F.kp, fd, F.ok sc__law_others len (fun cdv A outer s H vs Q E hr h => ⟨t__law_others K sp__law_like sp__law_parts_of, ?_, rd vs H Q E h⟩), F.bindsN fun _ _ _ _ _ _ us hl => match us, hl with | [_, _], _ => rfl⟩
  refine PSs.nox ?_
  exact (pss_cons (ps_set (i := 2) nd rfl (by first | exact Or.inl rfl | exact Or.inr rfl) (pe_lst (pa_cons (pe_new h_BadName hr (by decide) (by rfl) (by decide) (mono_cons mono_var mono_nil) (pa_cons (pv 0) pa_nil)) (pa_cons (pe_new h_BadScript hr (by decide) (by rfl) (by decide) (mono_cons mono_var mono_nil) (pa_cons (pv 0) pa_nil)) (pa_cons (pe_new h_Barred hr (by decide) (by rfl) (by decide) (mono_cons mono_var mono_nil) (pa_cons (pv 0) pa_nil)) (pa_cons (pe_new h_Unlike hr (by decide) (by rfl) (by decide) (mono_cons mono_var mono_nil) (pa_cons (pv 0) pa_nil)) (pa_cons (pe_new h_HasResidue hr (by decide) (by rfl) (by decide) (mono_cons mono_var mono_nil) (pa_cons (pv 0) pa_nil)) (pa_cons (pe_new h_NotKept hr (by decide) (by rfl) (by decide) (mono_cons mono_var mono_nil) (pa_cons (pv 0) pa_nil)) (pa_cons (pe_new h_NoSuch hr (by decide) (by rfl) (by decide) (mono_cons mono_var mono_nil) (pa_cons (pv 0) pa_nil)) (pa_cons (pe_new h_Ended hr (by decide) (by rfl) (by decide) (mono_cons mono_var mono_nil) (pa_cons (pv 0) pa_nil)) pa_nil))))))))))
      (pss_cons (ps_set (i := 3) nd rfl (by first | exact Or.inl rfl | exact Or.inr rfl) (pe_lst (pa_cons pe_str (pa_cons pe_str (pa_cons pe_str (pa_cons pe_str (pa_cons pe_str (pa_cons pe_str (pa_cons pe_str (pa_cons pe_str pa_nil))))))))))
      (pss_cons (ps_for PassesOwn.never rfl (pi_range1 (by rfl) G.b_range (pa_cons (pe_callB cr_len (by rfl) G.b_len (by first | rfl | kernel_rfl) (pa_cons (pv 3) pa_nil)) pa_nil)) (pg_name (i := 4) nd rfl (by first | exact Or.inl rfl | exact Or.inr rfl) (by first | exact Or.inl rfl | exact Or.inr rfl)) (pss_one (ps_if (pt_not (pt_val (pe_callU h__law_like hr (by decide) (by rfl) passN (pa_cons (pe_callU h__law_parts_of hr (by decide) (by rfl) passN (pa_cons (pe_ix ix_u (pv 2) (pv 4) (fun _ _ => rfl)) pa_nil)) (pa_cons (pe_lst (pa_cons (pe_ix ix_u (pv 3) (pv 4) (fun _ _ => rfl)) (pa_cons (pv 0) pa_nil))) pa_nil))))) (pss_one (ps_ret pe_bl)) pss_nil)))
      (pss_cons (ps_set (i := 2) nd rfl (by first | exact Or.inl rfl | exact Or.inr rfl) (pe_lst (pa_cons (pe_newK h_BadName hr (by decide) (by rfl) (by decide) rfl (mono_cons mono_var mono_nil) (pk_cons (pv 1) pk_nil)) (pa_cons (pe_newK h_BadScript hr (by decide) (by rfl) (by decide) rfl (mono_cons mono_var mono_nil) (pk_cons (pv 1) pk_nil)) (pa_cons (pe_newK h_Barred hr (by decide) (by rfl) (by decide) rfl (mono_cons mono_var mono_nil) (pk_cons (pv 1) pk_nil)) (pa_cons (pe_newK h_Unlike hr (by decide) (by rfl) (by decide) rfl (mono_cons mono_var mono_nil) (pk_cons (pv 1) pk_nil)) (pa_cons (pe_newK h_HasResidue hr (by decide) (by rfl) (by decide) rfl (mono_cons mono_var mono_nil) (pk_cons (pv 1) pk_nil)) (pa_cons (pe_newK h_NotKept hr (by decide) (by rfl) (by decide) rfl (mono_cons mono_var mono_nil) (pk_cons (pv 1) pk_nil)) (pa_cons (pe_newK h_NoSuch hr (by decide) (by rfl) (by decide) rfl (mono_cons mono_var mono_nil) (pk_cons (pv 1) pk_nil)) (pa_cons (pe_newK h_Ended hr (by decide) (by rfl) (by decide) rfl (mono_cons mono_var mono_nil) (pk_cons (pv 1) pk_nil)) pa_nil))))))))))
      (pss_cons (ps_for PassesOwn.never rfl (pi_range1 (by rfl) G.b_range (pa_cons (pe_callB cr_len (by rfl) G.b_len (by first | rfl | kernel_rfl) (pa_cons (pv 3) pa_nil)) pa_nil)) (pg_name (i := 4) nd rfl (by first | exact Or.inl rfl | exact Or.inr rfl) (by first | exact Or.inl rfl | exact Or.inr rfl)) (pss_one (ps_if (pt_not (pt_val (pe_callU h__law_like hr (by decide) (by rfl) passN (pa_cons (pe_callU h__law_parts_of hr (by decide) (by rfl) passN (pa_cons (pe_ix ix_u (pv 2) (pv 4) (fun _ _ => rfl)) pa_nil)) (pa_cons (pe_lst (pa_cons (pe_ix ix_u (pv 3) (pv 4) (fun _ _ => rfl)) (pa_cons (pv 1) pa_nil))) pa_nil))))) (pss_one (ps_ret pe_bl)) pss_nil)))
      (pss_one (ps_ret (pe_and (pe_callU h__law_like hr (by decide) (by rfl) passN (pa_cons (pe_callU h__law_parts_of hr (by decide) (by rfl) passN (pa_cons (pe_new h_TooMany hr (by decide) (by rfl) (by decide) (mono_cons mono_var (mono_cons mono_var mono_nil)) (pa_cons (pv 0) (pa_cons (pv 1) pa_nil))) pa_nil)) (pa_cons (pe_lst (pa_cons pe_str (pa_cons (pv 0) (pa_cons (pv 1) pa_nil)))) pa_nil))) (pe_one (pe_callU h__law_like hr (by decide) (by rfl) passN (pa_cons (pe_callU h__law_parts_of hr (by decide) (by rfl) passN (pa_cons (pe_newK h_TooMany hr (by decide) (by rfl) (by decide) rfl (mono_cons mono_var (mono_cons mono_var mono_nil)) (pk_cons (pv 0) (pk_cons (pv 1) pk_nil))) pa_nil)) (pa_cons (pe_lst (pa_cons pe_str (pa_cons (pv 1) (pa_cons (pv 0) pa_nil)))) pa_nil))))))))))))
end
end K00
end
section
set_option Elab.async false
set_option linter.all false
set_option maxRecDepth 100000
set_option maxHeartbeats 4000000
/-! printed by gen/gen.py: each def, its term and its rule -/
namespace K00
open PySem PySem.Spec PyProof.Rows L2 LamX U LW
section
variable {P : Program} {w : World} {K : PySem.W.Frag} {mg : Str → Option Value} {base : Heap}
theorem sc_law : FnScope ["script", "jar", "turn", "u", "v"] ["script"] (defScope s_law) := ⟨rfl, rfl, rfl, by decide +kernel, rfl, by decide +kernel, by decide +kernel⟩
def t_law (K : PySem.W.Frag) (sp__law_jar : Sp) (sp__law_forms : Sp) (sp__law_bent : Sp) (sp__law_thing : Sp) (sp__law_strange : Sp) (sp__law_singles : Sp) (sp__law_others : Sp) (sp__law_asked : Sp) : TS := (tSeq (tAsg (tCall sp__law_jar [] E0 (tCons (tVar 0) tNil)) (gName 1))
  (tSeq (tFor (iRng1 (tCons (tC (.int 6)) tNil)) (gName 2) (tIfS (tOr (tNot (L2.tB (tCall sp__law_forms [] E0 (tCons (tVar 1) tNil)))) (tOr (tNot (L2.tB (tCall sp__law_bent [] E0 (tCons (tVar 1) tNil)))) (tNot (L2.tB (tCall sp__law_bent [] E0 (tCons (tVar 1) tNil)))))) (tRet (tC (.bl false))) tNext))
  (tSeq (tAsg (tCall sp__law_thing [] E0 (tCons (tVar 1) tNil)) (gName 3))
  (tSeq (tAsg (tCall sp__law_thing [] E0 (tCons (tVar 1) tNil)) (gName 4))
  (tRet (tAndV (tCall sp__law_strange [] E0 (tCons (tVar 1) tNil)) (tAndV (tCall sp__law_singles [] E0 (tCons (tVar 3) (tCons (tVar 4) tNil))) (tAndV (tCall sp__law_others [] E0 (tCons (tVar 4) (tCons (tVar 3) tNil))) (tAndV (tCall sp__law_asked [] E0 (tCons (tC (.int 0)) (tCons (tTup (tCons (tC (.int 0)) (tCons (tC (.int 1)) tNil))) tNil))) (tCall sp__law_asked [] E0 (tCons (tC (.str "-0/3")) (tCons (tTup (tCons (tC (.int 0)) (tCons (tC (.int 3)) tNil))) tNil))))))))))))
theorem fn_law (G : Glob K mg) {sp__law_jar : Sp} (h__law_jar : Has P w K mg base "_law_jar" 1 ["script"] sp__law_jar) {sp__law_forms : Sp} (h__law_forms : Has P w K mg base "_law_forms" 13 ["jar"] sp__law_forms) {sp__law_bent : Sp} (h__law_bent : Has P w K mg base "_law_bent" 13 ["jar"] sp__law_bent) {sp__law_thing : Sp} (h__law_thing : Has P w K mg base "_law_thing" 3 ["jar"] sp__law_thing) {sp__law_strange : Sp} (h__law_strange : Has P w K mg base "_law_strange" 13 ["jar"] sp__law_strange) {sp__law_singles : Sp} (h__law_singles : Has P w K mg base "_law_singles" 6 ["u", "v"] sp__law_singles) {sp__law_others : Sp} (h__law_others : Has P w K mg base "_law_others" 6 ["u", "v"] sp__law_others) {sp__law_asked : Sp} (h__law_asked : Has P w K mg base "_law_asked" 12 ["given", "pair"] sp__law_asked) {fd : FuncData} (F : FunD K "law" "law" (defArgs s_law) (defBody s_law) (defScope s_law) [] [] (He.ga K "law") fd) {sp : Sp} (len : ∀ vs H Q E, sp vs H Q E → vs.length = 1)
    (rd : ∀ vs H Q E, sp vs H Q E → t_law K sp__law_jar sp__law_forms sp__law_bent sp__law_thing sp__law_strange sp__law_singles sp__law_others sp__law_asked { nx := fun _ H' => Q .non H', rt := Q } (start ["script", "jar", "turn", "u", "v"] vs) H) : Has P w K mg base "law" 14 ["script"] sp := by
  have nd := (sc_law).nd
  refine ⟨G.g_law, F.kp, fd, F.ok sc_law len (fun cdv A outer s H vs Q E hr h => ⟨t_law K sp__law_jar sp__law_forms sp__law_bent sp__law_thing sp__law_strange sp__law_singles sp__law_others sp__law_asked, ?_, rd vs H Q E h⟩), F.bindsN fun _ _ _ _ _ _ us hl => match us, hl with | [_], _ => rfl⟩
  refine PSs.nox ?_
  exact (pss_cons (ps_set (i := 1) nd rfl (by first | exact Or.inl rfl | exact Or.inr rfl) (pe_callU h__law_jar hr (by decide) (by rfl) passN (pa_cons (pv 0) pa_nil)))
      (pss_cons (ps_for PassesOwn.never rfl (pi_range1 (by rfl) G.b_range (pa_cons pe_int pa_nil)) (pg_name (i := 2) nd rfl (by first | exact Or.inl rfl | exact Or.inr rfl) (by first | exact Or.inl rfl | exact Or.inr rfl)) (pss_one (ps_if ((pw_or (pt_not (pt_val (pe_callU h__law_forms hr (by decide) (by rfl) passN (pa_cons (pv 1) pa_nil)))) (pw_or (pt_not (pt_val (pe_callU h__law_bent hr (by decide) (by rfl) passN (pa_cons (pv 1) pa_nil)))) (pw_or1 (pt_not (pt_val (pe_callU h__law_bent hr (by decide) (by rfl) passN (pa_cons (pv 1) pa_nil)))))))).pt (pss_one (ps_ret pe_bl)) pss_nil)))
      (pss_cons (ps_set (i := 3) nd rfl (by first | exact Or.inl rfl | exact Or.inr rfl) (pe_callU h__law_thing hr (by decide) (by rfl) passN (pa_cons (pv 1) pa_nil)))
      (pss_cons (ps_set (i := 4) nd rfl (by first | exact Or.inl rfl | exact Or.inr rfl) (pe_callU h__law_thing hr (by decide) (by rfl) passN (pa_cons (pv 1) pa_nil)))
      (pss_one (ps_ret (pe_and (pe_callU h__law_strange hr (by decide) (by rfl) passN (pa_cons (pv 1) pa_nil)) (pe_and (pe_callU h__law_singles hr (by decide) (by rfl) passN (pa_cons (pv 3) (pa_cons (pv 4) pa_nil))) (pe_and (pe_callU h__law_others hr (by decide) (by rfl) passN (pa_cons (pv 4) (pa_cons (pv 3) pa_nil))) (pe_and (pe_callU h__law_asked hr (by decide) (by rfl) passN (pa_cons pe_int (pa_cons (pe_tup (pa_cons pe_int (pa_cons pe_int pa_nil))) pa_nil))) (pe_one (pe_callU h__law_asked hr (by decide) (by rfl) passN (pa_cons pe_str (pa_cons (pe_tup (pa_cons pe_int (pa_cons pe_int pa_nil))) pa_nil))))))))))))))
end
end K00
end
section
set_option Elab.async false
set_option linter.all false
namespace K00
open PySem PySem.Spec PyProof.Rows L2 LamX U
abbrev E_ (Q : VK) : Ends := { nx := fun _ H' => Q .non H', rt := Q }
end K00
end
section
set_option Elab.async false
set_option linter.all false
set_option maxRecDepth 100000
set_option maxHeartbeats 4000000
namespace K00
open PySem PySem.Spec PyProof.Rows L2 LamX U Evl
/-! ### steps, by program -/
local macro_rules | `(tactic| walk_at "kp") => `(tactic| first
  | assumption
  | exact sqA_of (by assumption)
  | exact sqB_of (by assumption)
  | exact sqL_of (by assumption)
  | exact sqT_of (by assumption)
  | exact Or.inl (by assumption)
  | exact Or.inr (by assumption)
  | exact Gr.refl _ _
  | exact GrA.gr (by assumption)
  | (apply Gr.trans ?_ (by first | assumption | exact GrA.gr (by assumption)); walk_at "kp")
  | (apply Gr.sq; (first | assumption | exact GrA.gr (T := []) (by assumption)); walk_at "kp")
  | (apply Gr.sqL; (first | assumption | exact GrA.gr (T := []) (by assumption)); walk_at "kp")
  | (apply Gr.sqT; (first | assumption | exact GrA.gr (T := []) (by assumption)); walk_at "kp")
  | (apply Gr.lst; (first | assumption | exact GrA.gr (T := []) (by assumption)); walk_at "kp")
  | (apply Gr.tup; (first | assumption | exact GrA.gr (T := []) (by assumption)); walk_at "kp"))
local macro_rules | `(tactic| walk_at "s") => `(tactic| first
  | with_reducible first
    | refine w_seq ?_ | refine w_asg ?_ | refine w_gname ?_ | refine w_if ?_ | refine w_ret ?_ | refine w_next ?_ | refine w_drop ?_ | refine w_retN ?_ | refine w_brk ?_ | refine w_cont ?_ | refine w_gsub ?_
    | refine w_op ?_ | refine w_c ?_ | refine w_nil ?_ | refine w_cons ?_ | refine w_cb ?_ | refine w_un ?_
    | refine w_I0 ?_ | refine w_U ?_ | refine w_add ?_ | refine w_test ?_ | refine w_tB ?_ | refine w_tr ?_ | refine w_exn ?_ | refine w_trn ?_ | refine w_and ?_ | refine w_or ?_ | refine w_not ?_ | refine w_andV ?_ | refine w_orV ?_ | refine w_notV ?_ | refine w_ifE ?_
    | refine w_eqI ?_ | refine w_neI ?_ | refine w_eqS ?_ | refine w_neS ?_ | refine w_eqB ?_ | refine w_neB ?_ | refine w_isNo ?_ | refine w_notN ?_
    | refine w_call0 ?_ | refine w_tupK ?_ | refine w_lstK ?_ | refine w_bm ?_ | refine w_nop ?_ | refine w_part ?_ | refine w_exi ?_ | refine w_sl ?_
    | refine w_lcS ?_ | refine w_lcR1 ?_ | refine w_lcR2 ?_ | refine w_lcE ?_ | refine w_frS ?_ | refine w_frR1 ?_ | refine w_frR2 ?_ | refine w_frE ?_ | refine w_frT ?_
    | refine w_tYes ?_ | refine w_iteD ?_ | refine w_iteND ?_ | refine w_raise ?_ | refine raK1 ?_ | refine raK2 ?_ | refine w_iteNT ?_ | refine w_iteNF ?_ | refine w_ckw ?_ | refine w_callN ?_ | refine w_m1 ?_ | refine w_yes1 ?_ | refine w_iteT ?_ | refine w_iteF ?_ | refine w_abs ?_ | refine w_max2 ?_ | refine w_max3 ?_ | refine w_min2 ?_ | refine w_intI ?_
  | (refine w_var (by with_unfolding_all rfl) ?_)
  | (refine w_lenI (by walk_at "kp") ?_)
  | (refine w_len (by walk_at "kp") ?_)
  | (refine w_sum (by walk_at "kp") ?_)
  | (with_reducible refine lstK ?_ ?_; exact Nat.le_of_ble_eq_true rfl)
  | (with_reducible refine tupK ?_ ?_; exact Nat.le_of_ble_eq_true rfl)
  | (refine w_list (by walk_at "kp") ?_)
  | (refine w_tuple (by walk_at "kp") ?_)
  | (refine w_slI (by walk_at "kp") ?_)
  | (refine w_inI (by walk_at "kp") ?_)
  | (refine w_notInI (by walk_at "kp") ?_))
local macro_rules | `(tactic| walk_at "go") => `(tactic| repeat' (walk_at "s"))
variable {K : PySem.W.Frag} {T : List (Addr × Str)}
def spAskText (K : PySem.W.Frag) : Sp := fun vs H Q E => ∃ n : Int, vs = [.int n] ∧ n ≤ 60000 ∧ Q .non H
theorem rd_ask_text : ∀ vs H Q (E : XK), spAskText K vs H Q E → t_ask_text K E (E_ Q) (start ["count"] vs) H := by
  intro vs H Q E h
  obtain ⟨n, rfl, h1, q⟩ := h
  unfold t_ask_text
  walk_at "go"
  refine w_dec (fun e => ?_) (fun e => ?_)
  · omega
  · walk_at "go"
    exact q
/-! words -/
def isDig (z : Str) : Bool := !decide (z = "") && (z.cps.toList.all fun c => decide (c ∈ ("0123456789" : Str).cps.toList)) && (decide (z = "0") || !decide ((⟨#[z.cps.toList.getD 0 0]⟩ : Str) = "0"))
def spIsDigits : Sp := fun vs H Q _ => ∃ z : Str, vs = [.str z] ∧ z.length ≤ 640 ∧ Q (.bl (isDig z)) H
theorem rd_is_digits : ∀ vs H Q (E : XK), spIsDigits vs H Q E → t_is_digits K (E_ Q) (start ["text", "sign"] vs) H := by
  intro vs H Q E h
  obtain ⟨z, rfl, hz, q⟩ := h
  unfold t_is_digits
  walk_at "go"
  unfold isDig at q
  refine w_dec (fun e => ?_) (fun e => ?_)
  · walk_at "go"
    rw [decide_eq_true e] at q
    exact q
  · walk_at "go"
    rw [decide_eq_false e] at q
    refine fr_T (fun i σ H' => H' = H ∧ (∃ u, σ = [some (.str z), u]) ∧ ∀ c ∈ z.cps.toList.take i, c ∈ ("0123456789" : Str).cps.toList) ⟨rfl, ⟨_, rfl⟩, by simp⟩ (fun i c σ' H' hc p => ?_) (fun σ' H' p => ?_)
    · obtain ⟨rfl, ⟨u, rfl⟩, p⟩ := p
      have hm : c ∈ z.cps.toList := by
        have h2 := List.mem_of_getElem? (l := z.cps.toList) (i := i) (by rw [Array.getElem?_toList]; exact hc)
        exact h2
      walk_at "go"
      refine w_notInC ?_
      walk_at "go"
      refine w_ndec (fun e2 => ?_) (fun e2 => ?_)
      · walk_at "go"
        have e3 : (z.cps.toList.all fun c => decide (c ∈ ("0123456789" : Str).cps.toList)) = false := by
          rw [List.all_eq_false]
          exact ⟨c, hm, by simpa using e2⟩
        rw [e3] at q
        exact q
      · walk_at "go"
        refine ⟨rfl, ⟨_, rfl⟩, fun d hd => ?_⟩
        rw [List.take_add_one, Array.getElem?_toList, hc] at hd
        rcases List.mem_append.mp hd with h3 | h3
        · exact p d h3
        · have : d = c := by simpa using h3
          rw [this]
          exact e2
    · obtain ⟨rfl, ⟨u, rfl⟩, p⟩ := p
      have e3 : (z.cps.toList.all fun c => decide (c ∈ ("0123456789" : Str).cps.toList)) = true := by
        rw [List.all_eq_true]
        intro c hc
        exact decide_eq_true (p c (by rw [List.take_of_length_le (by simp)]; exact hc))
      rw [e3] at q
      have hne : z.cps.toList ≠ [] := fun e4 => by
        refine e ?_
        obtain ⟨zc⟩ := z
        have : zc = #[] := by
          cases zc
          simpa using e4
        rw [this]
        rfl
      obtain ⟨c, r, ec⟩ : ∃ c r, z.cps.toList = c :: r := by
        cases h5 : z.cps.toList with
        | nil => exact absurd h5 hne
        | cons c r => exact ⟨c, r, rfl⟩
      walk_at "go"
      refine w_bool (fun e4 => ?_) (fun e4 => ?_)
      · rw [e4] at q
        exact q
      · rw [e4] at q
        walk_at "go"
        refine ⟨c, Nat.le_trans hz (by decide), by rw [ec]; exact atI_nat (j := 0) rfl, ?_⟩
        walk_at "go"
        rw [ec] at q
        exact q
def spWholeOf : Sp := fun vs H Q _ => ∃ (z : Str) (n : Int), vs = [.str z] ∧ z.length ≤ 640 ∧ PySem.intText? z = some n ∧ Q (.int n) H
theorem rd_whole_of : ∀ vs H Q (E : XK), spWholeOf vs H Q E → t_whole_of K (E_ Q) (start ["text", "first", "value", "step", "at"] vs) H := by
  intro vs H Q E h
  obtain ⟨z, n, rfl, hz, hn, q⟩ := h
  unfold t_whole_of
  walk_at "go"
  refine w_lenS (Nat.le_trans hz (by decide)) ?_
  walk_at "go"
  refine w_dec (fun e => ?_) (fun e => ?_)
  · walk_at "go"
    exact ⟨n, hn, hz, q⟩
  · omega
def strLen : V → Int
  | .str z => z.length
  | _ => 0
end K00
end
section
set_option Elab.async false
set_option linter.all false
set_option maxRecDepth 100000
set_option maxHeartbeats 4000000
namespace K00
open PySem PySem.Spec PyProof.Rows L2 LamX U Evl
/-! ### steps, by program -/
local macro_rules | `(tactic| walk_at "kp") => `(tactic| first
  | assumption
  | exact sqA_of (by assumption)
  | exact sqB_of (by assumption)
  | exact sqL_of (by assumption)
  | exact sqT_of (by assumption)
  | exact Or.inl (by assumption)
  | exact Or.inr (by assumption)
  | exact Gr.refl _ _
  | exact GrA.gr (by assumption)
  | (apply Gr.trans ?_ (by first | assumption | exact GrA.gr (by assumption)); walk_at "kp")
  | (apply Gr.sq; (first | assumption | exact GrA.gr (T := []) (by assumption)); walk_at "kp")
  | (apply Gr.sqL; (first | assumption | exact GrA.gr (T := []) (by assumption)); walk_at "kp")
  | (apply Gr.sqT; (first | assumption | exact GrA.gr (T := []) (by assumption)); walk_at "kp")
  | (apply Gr.lst; (first | assumption | exact GrA.gr (T := []) (by assumption)); walk_at "kp")
  | (apply Gr.tup; (first | assumption | exact GrA.gr (T := []) (by assumption)); walk_at "kp"))
local macro_rules | `(tactic| walk_at "s") => `(tactic| first
  | with_reducible first
    | refine w_seq ?_ | refine w_asg ?_ | refine w_gname ?_ | refine w_if ?_ | refine w_ret ?_ | refine w_next ?_ | refine w_drop ?_ | refine w_retN ?_ | refine w_brk ?_ | refine w_cont ?_ | refine w_gsub ?_
    | refine w_op ?_ | refine w_c ?_ | refine w_nil ?_ | refine w_cons ?_ | refine w_cb ?_ | refine w_un ?_
    | refine w_I0 ?_ | refine w_U ?_ | refine w_add ?_ | refine w_test ?_ | refine w_tB ?_ | refine w_tr ?_ | refine w_exn ?_ | refine w_trn ?_ | refine w_and ?_ | refine w_or ?_ | refine w_not ?_ | refine w_andV ?_ | refine w_orV ?_ | refine w_notV ?_ | refine w_ifE ?_
    | refine w_eqI ?_ | refine w_neI ?_ | refine w_eqS ?_ | refine w_neS ?_ | refine w_eqB ?_ | refine w_neB ?_ | refine w_isNo ?_ | refine w_notN ?_
    | refine w_call0 ?_ | refine w_tupK ?_ | refine w_lstK ?_ | refine w_bm ?_ | refine w_nop ?_ | refine w_part ?_ | refine w_exi ?_ | refine w_sl ?_
    | refine w_lcS ?_ | refine w_lcR1 ?_ | refine w_lcR2 ?_ | refine w_lcE ?_ | refine w_frS ?_ | refine w_frR1 ?_ | refine w_frR2 ?_ | refine w_frE ?_ | refine w_frT ?_
    | refine w_tYes ?_ | refine w_iteD ?_ | refine w_iteND ?_ | refine w_raise ?_ | refine raK1 ?_ | refine raK2 ?_ | refine w_iteNT ?_ | refine w_iteNF ?_ | refine w_ckw ?_ | refine w_callN ?_ | refine w_m1 ?_ | refine w_yes1 ?_ | refine w_iteT ?_ | refine w_iteF ?_ | refine w_abs ?_ | refine w_max2 ?_ | refine w_max3 ?_ | refine w_min2 ?_ | refine w_intI ?_
  | (refine w_var (by with_unfolding_all rfl) ?_)
  | (refine w_lenI (by walk_at "kp") ?_)
  | (refine w_len (by walk_at "kp") ?_)
  | (refine w_sum (by walk_at "kp") ?_)
  | (with_reducible refine lstK ?_ ?_; exact Nat.le_of_ble_eq_true rfl)
  | (with_reducible refine tupK ?_ ?_; exact Nat.le_of_ble_eq_true rfl)
  | (refine w_list (by walk_at "kp") ?_)
  | (refine w_tuple (by walk_at "kp") ?_)
  | (refine w_slI (by walk_at "kp") ?_)
  | (refine w_inI (by walk_at "kp") ?_)
  | (refine w_notInI (by walk_at "kp") ?_))
local macro_rules | `(tactic| walk_at "go") => `(tactic| repeat' (walk_at "s"))
variable {K : PySem.W.Frag} {T : List (Addr × Str)}
/-! ### the jar -/
def spBagL (K : PySem.W.Frag) : Sp := fun vs H Q _ => ∃ (a : Addr) (ns : List Int), vs = [.ref a] ∧ SqL K H a (ns.map .int) ∧ ∀ J c jv ms H', (GrA H H') → H J = none → H' J = some (.lst jv) → JarV c jv → SqL K H' c (List.map V.int ms) → ms.length ≤ 63 → c ≠ J → Q (.ref J) H'
theorem rd_law_jar : ∀ vs H Q (E : XK), spBagL K vs H Q E → t__law_jar K (E_ Q) (start ["script", "stir", "cell"] vs) H := by
  intro vs H Q E h
  obtain ⟨a, ns, rfl, hs, q⟩ := h
  unfold t__law_jar
  have h0 : Sq K H a (ns.map V.int) := .inl hs
  walk_at "go"
  intro z1 H1 g1 h1
  rw [show (some (63 : Int)) = some ((63 : Nat) : Int) from rfl, cutI_take] at h1
  refine fr_S (T := []) h1 (fun i σ H' => H' = H1 ∧ ∃ (s : Int) (u : Option V), σ = [some (.ref a), some (.int s), u] ∧ 0 ≤ s ∧ s < 2147483579) ⟨rfl, 19609, _, rfl, by decide, by decide⟩ (fun i σ' H' p => by rw [p.1]; exact Gr.refl _ _) (fun i x σ' H' hx p => ?_) (fun σ' H' p => ?_)
  · obtain ⟨rfl, s, u, rfl, s0, s1⟩ := p
    rw [List.getElem?_map] at hx
    obtain ⟨n, hn, rfl⟩ := Option.map_eq_some_iff.mp hx
    walk_at "go"
    refine w_mul (.inr ⟨by decide, by decide⟩) ?_
    walk_at "go"
    refine w_I (show (0 : Int) < 2147483549 by decide) ?_
    walk_at "go"
    refine w_I (show (0 : Int) < 2147483579 by decide) ?_
    walk_at "go"
    exact ⟨rfl, _, _, rfl, Int.emod_nonneg _ (by decide), Int.emod_lt_of_pos _ (by decide)⟩
  · obtain ⟨rfl, s, u, rfl, s0, s1⟩ := p
    have h0' : Sq K H' a (ns.map V.int) := (g1 []).sq h0
    walk_at "go"
    intro z2 H2 g2 h2
    rw [show (some (63 : Int)) = some ((63 : Nat) : Int) from rfl, cutI_take] at h2
    walk_at "go"
    intro l H3 nl g3 h3
    walk_at "go"
    intro J H4 nJ g4 h4
    walk_at "go"
    have gg : GrA H H4 := fun T => ((g1 T).trans (g2 T)).trans ((g3 T).trans (g4 T))
    refine q J l _ (ns.take 63) H4 gg (((g1 []).trans ((g2 []).trans (g3 []))).free _ nJ) h4 ⟨0, 0, 0, s, 0, rfl, by decide, s0, s1⟩ (sqL_of ((g4 []).lst h3)) (by rw [List.length_take]; omega) (ne_of_none h3 nJ)
def spBag (K : PySem.W.Frag) (T : List (Addr × Str)) : Sp := fun vs H Q _ => ∃ (a : Addr) (ns : List Int), vs = [.ref a] ∧ SqL K H a (ns.map .int) ∧ ∀ J H', Gr T H H' → Jar K H' J → Q (.ref J) H'
theorem sqL_upd {H : Hp} {c J : Addr} {u : HO} {xs : List V} (h : SqL K H c xs) (n : c ≠ J) : SqL K (upd H J u) c xs := by
  rcases h with (h | ⟨o, h⟩) | h
  · exact .inl (.inl (by rw [upd_ne n]; exact h))
  · exact .inl (.inr ⟨o, by rw [upd_ne n]; exact h⟩)
  · exact .inr h
theorem bag_up : ∀ vs H Q E, spBag K T vs H Q E → spBagL K vs H (fun v H' => ∃ J c jv, v = .ref J ∧ H J = none ∧ H' J = some (.lst jv) ∧ JarV c jv ∧ Q v (upd H' J (JarO J c))) fun _ _ _ => False := by
  intro vs H Q E h
  obtain ⟨a, ns, rfl, hs, q⟩ := h
  refine ⟨a, ns, rfl, hs, fun J c jv ms H' g nJ hJ gj hc hm nc => ⟨J, c, jv, rfl, nJ, hJ, gj, q J _ ⟨fun b o e n => ?_, fun b e => ?_, fun t => ?_⟩ ⟨c, ms, upd_same, sqL_upd hc nc, by omega⟩⟩⟩
  · rw [upd_ne (ne_of_none e nJ)]
    exact (g T).keep b o e n
  · by_cases z : b = J
    · rw [z]; exact nJ
    · rw [upd_ne z] at e
      exact (g T).free b e
  · intro p hp
    obtain ⟨ps, a1, a2, a3⟩ := (g T).tabs t p hp
    refine ⟨ps, ?_, a2, fun pos cv hcv => ?_⟩
    · rw [upd_ne (fun z => by rw [z, hJ] at a1; cases a1)]; exact a1
    · obtain ⟨c2, e1, e2⟩ := a3 pos cv hcv
      refine ⟨c2, e1, ?_⟩
      rw [upd_ne (fun z => by rw [z, hJ] at e2; unfold CodeO at e2; cases e2)]; exact e2
def spDrawL (K : PySem.W.Frag) : Sp := fun vs H Q _ => ∃ J top H0 c jv ns, vs = [.ref J, .int top] ∧ H = upd H0 J (.lst jv) ∧ JarV c jv ∧ (∀ u, SqL K (upd H0 J u) c (List.map V.int ns)) ∧ ns.length ≤ 1000 ∧ 0 < top ∧ top < 1073741824 ∧
  ∀ d jv', 0 ≤ d → d < top → JarV c jv' → Q (.int d) (upd H0 J (.lst jv'))
theorem w_setU {H0 : Hp} {J : Addr} {xs : List V} {k : Int} {v : V} {QH : Hp → Prop} (h0 : 0 ≤ k) (h1 : k < xs.length) (q : QH (upd H0 J (.lst (xs.set k.toNat v)))) : rSetL (.ref J) (.int k) v (upd H0 J (.lst xs)) QH := by
  refine w_set upd_same h0 h1 ?_
  rw [upd_upd]
  exact q
theorem w_ixU {H0 : Hp} {J : Addr} {xs : List V} {k : Int} {v : V} {Q : VK} (h0 : 0 ≤ k) (h1 : xs[k.toNat]? = some v) (q : Q v (upd H0 J (.lst xs))) : uIx K (.ref J) (.int k) (upd H0 J (.lst xs)) Q := w_ix (sqA_of upd_same) h0 h1 q
theorem rd_law_draw : ∀ vs H Q (E : XK), spDrawL K vs H Q E → t__law_draw K (E_ Q) (start ["jar", "edge", "cell", "digit"] vs) H := by
  intro vs H Q E h
  obtain ⟨J, top, H0, c, jv, ns, rfl, rfl, gj, hc, hn, t0, t1, q⟩ := h
  obtain ⟨p, b, k, s, m, rfl, p0, s0, s1⟩ := gj.is
  unfold t__law_draw
  -- the end: a draw out of the stir
  have fin : ∀ (p b k s m : Int) (u v : Option V), 0 ≤ p → 0 ≤ s → s < 2147483579 → (tSeq (tIfS (tTest (tOp qGt (tOp (uIx K) (tVar 0) (tC (.int 3))) (tC (.int 0)))) (tSeq (tAsg (tOp qMod (tCB (uInt) (tCons (tOp (uIx K) (tVar 0) (tC (.int 2))) tNil)) (tVar 1)) (gName 3))
    (tSeq (tAsg (tOp qFdiv (tOp (uIx K) (tVar 0) (tC (.int 2))) (tVar 1)) (gSub (tVar 0) (tC (.int 2)) rSetL))
    (tSeq (tAsg (tIf (tTest (tOp qGt (tOp (uIx K) (tVar 0) (tC (.int 2))) (tC (.int 0)))) (tOp qSub (tOp (uIx K) (tVar 0) (tC (.int 3))) (tC (.int 1))) (tC (.int 0))) (gSub (tVar 0) (tC (.int 3)) rSetL))
    (tRet (tVar 3))))) tNext)
    (tSeq (tAsg (tOp qMod (tCB (uInt) (tCons (tOp (uAdd K) (tOp (uAdd K) (tOp qPow (tOp (uIx K) (tVar 0) (tC (.int 4))) (tC (.int 3))) (tOp uMul (tOp (uIx K) (tVar 0) (tC (.int 5))) (tC (.int 1299709)))) (tC (.int 104729))) tNil)) (tC (.int 2147483579))) (gSub (tVar 0) (tC (.int 4)) rSetL))
    (tRet (tOp qMod (tCB (uInt) (tCons (tOp (uAdd K) (tOp qFdiv (tOp (uIx K) (tVar 0) (tC (.int 4))) (tC (.int 61))) (tOp uMul (tOp qMod (tCB (uInt) (tCons (tOp (uIx K) (tVar 0) (tC (.int 4))) tNil)) (tC (.int 6007))) (tC (.int 71)))) tNil)) (tVar 1))))) (E_ Q) [some (.ref J), some (.int top), u, v] (upd H0 J (.lst [.ref c, .int p, .int b, .int k, .int s, .int m])) := by
    intro p b k s m u v p0 s0 s1
    walk_at "go"
    refine w_ixU (by decide) rfl ?_
    walk_at "go"
    refine w_dec (fun e => ?_) (fun e => ?_)
    · walk_at "go"
      refine w_ixU (by decide) rfl ?_
      walk_at "go"
      refine w_I t0 ?_
      walk_at "go"
      refine w_ixU (by decide) rfl ?_
      walk_at "go"
      refine w_I ⟨t0, t1⟩ ?_
      walk_at "go"
      refine w_setU (by decide) (by simp) ?_
      walk_at "go"
      refine w_ixU (by decide) rfl ?_
      walk_at "go"
      refine w_dec (fun e2 => ?_) (fun e2 => ?_)
      · walk_at "go"
        refine w_ixU (by decide) rfl ?_
        walk_at "go"
        refine w_setU (by decide) (by simp) ?_
        walk_at "go"
        exact q _ _ (Int.emod_nonneg _ (by omega)) (Int.emod_lt_of_pos _ t0) ⟨p, _, _, s, m, rfl, p0, s0, s1⟩
      · walk_at "go"
        refine w_setU (by decide) (by simp) ?_
        walk_at "go"
        exact q _ _ (Int.emod_nonneg _ (by omega)) (Int.emod_lt_of_pos _ t0) ⟨p, _, _, s, m, rfl, p0, s0, s1⟩
    · walk_at "go"
      refine w_ixU (by decide) rfl ?_
      walk_at "go"
      refine w_I ⟨by decide, by decide, by omega⟩ ?_
      walk_at "go"
      refine w_ixU (by decide) rfl ?_
      walk_at "go"
      refine w_mul (.inr ⟨by decide, by decide⟩) ?_
      walk_at "go"
      refine w_I (show (0 : Int) < 2147483579 by decide) ?_
      walk_at "go"
      refine w_setU (by decide) (by simp) ?_
      walk_at "go"
      refine w_ixU (by decide) rfl ?_
      walk_at "go"
      refine w_I ⟨by decide, by decide⟩ ?_
      walk_at "go"
      refine w_ixU (by decide) rfl ?_
      walk_at "go"
      refine w_I (show (0 : Int) < 6007 by decide) ?_
      walk_at "go"
      refine w_mul (.inr ⟨by decide, by decide⟩) ?_
      walk_at "go"
      refine w_I t0 ?_
      exact q _ _ (Int.emod_nonneg _ (by omega)) (Int.emod_lt_of_pos _ t0) ⟨p, b, k, _, m, rfl, p0, Int.emod_nonneg _ (by decide), Int.emod_lt_of_pos _ (by decide)⟩
  walk_at "s"
  walk_at "s"
  walk_at "go"
  refine w_ixU (by decide) rfl ?_
  walk_at "go"
  refine w_setU (by decide) (by simp) ?_
  walk_at "s"
  walk_at "s"
  walk_at "s"
  walk_at "go"
  refine w_ixU (by decide) rfl ?_
  walk_at "go"
  refine w_dec (fun e => ?_) (fun e => ?_)
  · walk_at "go"
    refine w_ixU (by decide) rfl ?_
    walk_at "go"
    refine w_ixU (by decide) rfl ?_
    walk_at "go"
    refine w_lenI (.inl (hc _)) ?_
    walk_at "go"
    refine w_dec (fun e2 => ?_) (fun e2 => ?_)
    · walk_at "go"
      refine w_ixU (by decide) rfl ?_
      walk_at "go"
      refine w_ixU (by decide) rfl ?_
      walk_at "go"
      refine w_ixZ (.inl (hc _)) p0 e2 ?_
      walk_at "go"
      refine w_ixU (by decide) rfl ?_
      walk_at "go"
      refine w_setU (by decide) (by simp) ?_
      walk_at "go"
      refine w_I ⟨by decide, by decide, by decide⟩ ?_
      walk_at "go"
      refine w_dec (fun e3 => ?_) (fun e3 => ?_)
      · walk_at "go"
        refine w_setU (by decide) (by simp) ?_
        walk_at "go"
        refine w_setU (by decide) (by simp) ?_
        exact fin _ _ _ _ _ _ _ (by omega) s0 s1
      · walk_at "go"
        refine w_ixU (by decide) rfl ?_
        walk_at "go"
        refine w_mul (.inr ⟨by decide, by decide⟩) ?_
        walk_at "go"
        refine w_I (show (0 : Int) < 2147483549 by decide) ?_
        walk_at "go"
        refine w_mul (.inr ⟨by decide, by decide⟩) ?_
        walk_at "go"
        refine w_I (show (0 : Int) < 2147483579 by decide) ?_
        walk_at "go"
        refine w_setU (by decide) (by simp) ?_
        exact fin _ _ _ _ _ _ _ (by omega) (Int.emod_nonneg _ (by decide)) (Int.emod_lt_of_pos _ (by decide))
    · exact fin _ _ _ _ _ _ _ p0 s0 s1
  · exact fin _ _ _ _ _ _ _ p0 s0 s1
def spDraw (K : PySem.W.Frag) : Sp := fun vs H Q _ => ∃ J top, vs = [.ref J, .int top] ∧ Jar K H J ∧ 0 < top ∧ top < 1073741824 ∧ ∀ d, 0 ≤ d → d < top → Q (.int d) H
theorem draw_up : ∀ vs H Q E, spDraw K vs H Q E → ∃ J c, H J = some (JarO J c) ∧ ∀ jv, JarV c jv → spDrawL K vs (upd H J (.lst jv)) (fun v H' => ∃ jv', H' J = some (.lst jv') ∧ JarV c jv' ∧ Q v (upd H' J (JarO J c))) fun _ _ _ => False := by
  intro vs H Q E h
  obtain ⟨J, top, rfl, ⟨c, ns, hJ, hc, hn⟩, t0, t1, q⟩ := h
  have nc : c ≠ J ∨ ∀ u, SqL K (upd H J u) c (ns.map V.int) := by
    by_cases z : c = J
    · right
      subst z
      rcases hc with (h | ⟨o, h⟩) | h
      · rw [hJ] at h
        have h' := Option.some.inj h
        unfold JarO at h'
        cases h'
      · rw [hJ] at h
        have h' := Option.some.inj h
        unfold JarO at h'
        cases h'
      · exact fun u => .inr h
    · exact .inl z
  refine ⟨J, c, hJ, fun jv gj => ⟨J, top, H, c, jv, ns, rfl, rfl, gj, fun u => nc.elim (fun z => sqL_upd hc z) fun z => z u, hn, t0, t1, fun d jv' d0 d1 gj' => ⟨jv', upd_same, gj', ?_⟩⟩⟩
  have e : upd (upd H J (.lst jv')) J (JarO J c) = H := by
    rw [upd_upd]
    funext b
    by_cases z : b = J
    · rw [z, upd_same, hJ]
    · rw [upd_ne z]
  rw [e]
  exact q d d0 d1
end K00
end
section
set_option Elab.async false
set_option linter.all false
set_option maxRecDepth 100000
set_option maxHeartbeats 4000000
namespace K00
open PySem PySem.Spec PyProof.Rows L2 LamX U Evl
/-! ### steps, by program -/
local macro_rules | `(tactic| walk_at "kp") => `(tactic| first
  | assumption
  | exact sqA_of (by assumption)
  | exact sqB_of (by assumption)
  | exact sqL_of (by assumption)
  | exact sqT_of (by assumption)
  | exact Or.inl (by assumption)
  | exact Or.inr (by assumption)
  | exact Gr.refl _ _
  | exact GrA.gr (by assumption)
  | (apply Gr.trans ?_ (by first | assumption | exact GrA.gr (by assumption)); walk_at "kp")
  | (apply Gr.sq; (first | assumption | exact GrA.gr (T := []) (by assumption)); walk_at "kp")
  | (apply Gr.sqL; (first | assumption | exact GrA.gr (T := []) (by assumption)); walk_at "kp")
  | (apply Gr.sqT; (first | assumption | exact GrA.gr (T := []) (by assumption)); walk_at "kp")
  | (apply Gr.lst; (first | assumption | exact GrA.gr (T := []) (by assumption)); walk_at "kp")
  | (apply Gr.tup; (first | assumption | exact GrA.gr (T := []) (by assumption)); walk_at "kp"))
local macro_rules | `(tactic| walk_at "s") => `(tactic| first
  | with_reducible first
    | refine w_seq ?_ | refine w_asg ?_ | refine w_gname ?_ | refine w_if ?_ | refine w_ret ?_ | refine w_next ?_ | refine w_drop ?_ | refine w_retN ?_ | refine w_brk ?_ | refine w_cont ?_ | refine w_gsub ?_
    | refine w_op ?_ | refine w_c ?_ | refine w_nil ?_ | refine w_cons ?_ | refine w_cb ?_ | refine w_un ?_
    | refine w_I0 ?_ | refine w_U ?_ | refine w_add ?_ | refine w_test ?_ | refine w_tB ?_ | refine w_tr ?_ | refine w_exn ?_ | refine w_trn ?_ | refine w_and ?_ | refine w_or ?_ | refine w_not ?_ | refine w_andV ?_ | refine w_orV ?_ | refine w_notV ?_ | refine w_ifE ?_
    | refine w_eqI ?_ | refine w_neI ?_ | refine w_eqS ?_ | refine w_neS ?_ | refine w_eqB ?_ | refine w_neB ?_ | refine w_isNo ?_ | refine w_notN ?_
    | refine w_call0 ?_ | refine w_tupK ?_ | refine w_lstK ?_ | refine w_bm ?_ | refine w_nop ?_ | refine w_part ?_ | refine w_exi ?_ | refine w_sl ?_
    | refine w_lcS ?_ | refine w_lcR1 ?_ | refine w_lcR2 ?_ | refine w_lcE ?_ | refine w_frS ?_ | refine w_frR1 ?_ | refine w_frR2 ?_ | refine w_frE ?_ | refine w_frT ?_
    | refine w_tYes ?_ | refine w_iteD ?_ | refine w_iteND ?_ | refine w_raise ?_ | refine raK1 ?_ | refine raK2 ?_ | refine w_iteNT ?_ | refine w_iteNF ?_ | refine w_ckw ?_ | refine w_callN ?_ | refine w_m1 ?_ | refine w_yes1 ?_ | refine w_iteT ?_ | refine w_iteF ?_ | refine w_abs ?_ | refine w_max2 ?_ | refine w_max3 ?_ | refine w_min2 ?_ | refine w_intI ?_
  | (refine w_var (by with_unfolding_all rfl) ?_)
  | (refine w_lenI (by walk_at "kp") ?_)
  | (refine w_len (by walk_at "kp") ?_)
  | (refine w_sum (by walk_at "kp") ?_)
  | (with_reducible refine lstK ?_ ?_; exact Nat.le_of_ble_eq_true rfl)
  | (with_reducible refine tupK ?_ ?_; exact Nat.le_of_ble_eq_true rfl)
  | (refine w_list (by walk_at "kp") ?_)
  | (refine w_tuple (by walk_at "kp") ?_)
  | (refine w_slI (by walk_at "kp") ?_)
  | (refine w_inI (by walk_at "kp") ?_)
  | (refine w_notInI (by walk_at "kp") ?_))
local macro_rules | `(tactic| walk_at "go") => `(tactic| repeat' (walk_at "s"))
variable {K : PySem.W.Frag} {T : List (Addr × Str)}
def spPick (K : PySem.W.Frag) : Sp := fun vs H Q _ => ∃ J m xs, vs = [.ref J, .ref m] ∧ Jar K H J ∧ Sq K H m xs ∧ 0 < xs.length ∧ xs.length ≤ 100000 ∧ ∀ x ∈ xs, Q x H
theorem rd_law_pick : ∀ vs H Q (E : XK), spPick K vs H Q E → t__law_pick K (spDraw K) (E_ Q) (start ["jar", "menu"] vs) H := by
  intro vs H Q E h
  obtain ⟨J, m, xs, rfl, hj, hs, h0, h1, q⟩ := h
  unfold t__law_pick
  walk_at "go"
  refine ⟨J, _, rfl, hj, by omega, by omega, fun d d0 d1 => ?_⟩
  have hl : d.toNat < xs.length := by omega
  exact w_ix hs d0 (List.getElem?_eq_getElem hl) (q _ (List.getElem_mem hl))
/-! ### like -/
theorem dp_kd {H : Hp} {v : V} {d : PyData} (h : Dp K H v d) : Kd K H v := by
  cases h with
  | non => exact .non
  | bl b => exact .bl b
  | int i => exact .int i
  | str s => exact .str s
  | lst h _ => exact .lst h
  | tup h _ => exact .tup h
theorem dpAll_get {H : Hp} : ∀ {xs : List V} {ds : List PyData} {i : Nat} {x : V}, DpAll K H xs ds → xs[i]? = some x → ∃ d, ds[i]? = some d ∧ Dp K H x d
  | _, _, _, _, .nil, e => by simp at e
  | _, _, 0, _, .cons r _, e => by
    simp at e
    subst e
    exact ⟨_, rfl, r⟩
  | _, _, i + 1, x, .cons _ t, e => by
    obtain ⟨q, h1, h2⟩ := dpAll_get (i := i) (x := x) t (by simpa using e)
    exact ⟨q, by simpa using h1, h2⟩
theorem dpAll_len {H : Hp} : ∀ {xs : List V} {ds : List PyData}, DpAll K H xs ds → xs.length = ds.length
  | _, _, .nil => rfl
  | _, _, .cons _ t => congrArg Nat.succ (dpAll_len t)
/-- how deep lists and tuples stand in one another -/
inductive Flat : Nat → PyData → Prop
  | non {n : Nat} : Flat n .none
  | bl {n : Nat} (b : Bool) : Flat n (.bool b)
  | int {n : Nat} (i : Int) : Flat n (.int i)
  | str {n : Nat} (s : Str) : Flat n (.str s)
  | lst {n : Nat} {ds : List PyData} (h : ∀ d ∈ ds, Flat n d) : Flat (n + 1) (.list ds)
  | tup {n : Nat} {ds : List PyData} (h : ∀ d ∈ ds, Flat n d) : Flat (n + 1) (.tuple ds)
def spLike (K : PySem.W.Frag) (T : List (Addr × Str)) (n : Nat) : Sp := fun vs H Q _ => ∃ v u d, vs = [v, u] ∧ Flat n d ∧ Dp K H v d ∧ Dp K H u d ∧ (∀ xs a, u = .ref a → Sq K H a xs → xs.length ≤ 10000) ∧ ∀ H', Gr T H H' → Q (.bl true) H'
/-- the same, with all lengths bounded -/
inductive Short : PyData → Prop
  | non : Short .none
  | bl (b : Bool) : Short (.bool b)
  | int (i : Int) : Short (.int i)
  | str (s : Str) : Short (.str s)
  | lst {ds : List PyData} (hl : ds.length ≤ 10000) (h : ∀ d ∈ ds, Short d) : Short (.list ds)
  | tup {ds : List PyData} (hl : ds.length ≤ 10000) (h : ∀ d ∈ ds, Short d) : Short (.tuple ds)
def spLikeN (K : PySem.W.Frag) (T : List (Addr × Str)) : Nat → Sp
  | 0 => fun _ _ _ _ => False
  | n + 1 => fun vs H Q _ => ∃ v u d, vs = [v, u] ∧ Flat n d ∧ Short d ∧ Dp K H v d ∧ Dp K H u d ∧ ∀ H', Gr T H H' → Q (.bl true) H'
theorem w_isNb {x : V} {H : Hp} {Q : VK} (q : Q (.bl (decide (x = .non))) H) : rIsN x .non H Q := ⟨rfl, q⟩
end K00
end
section
set_option Elab.async false
set_option linter.all false
set_option maxRecDepth 100000
set_option maxHeartbeats 4000000
/-! texts of numbers, plain -/
namespace K00
open PySem TL L2
/-- the digits of a natural number -/
def dg (n : Nat) : Str := Str.ofString (toString ((n : Nat) : Int))
theorem dg_tl (n : Nat) : tl (dg n) = numL n := tl_num n
theorem dg_len (n : Nat) : (dg n).length = (numL n).length := by rw [len_tl, dg_tl]
theorem dg_le {n k : Nat} (hk : 0 < k) (h : n < 10 ^ k) : (dg n).length ≤ k := by rw [dg_len]; exact numL_len hk h
theorem dg_ge {n k : Nat} (h : 10 ^ k ≤ n) : k + 1 ≤ (dg n).length := by
  rw [dg_len]
  unfold numL
  rw [List.length_map]
  exact PyProof.Rows.digits10_ge h
theorem dg_pos (n : Nat) : 0 < (dg n).length := by
  rw [dg_len]
  have := numL_ne n
  cases h : numL n with
  | nil => exact absurd h this
  | cons _ _ => simp
theorem mem_fig {c : Nat} : c ∈ ("0123456789" : Str).cps.toList ↔ 48 ≤ c ∧ c ≤ 57 := by
  rw [show ("0123456789" : Str).cps.toList = [48, 49, 50, 51, 52, 53, 54, 55, 56, 57] by decide +kernel]
  simp
  omega
theorem dig_one : ∀ c : Nat, ((⟨#[c]⟩ : Str) = "0") ↔ c = 48 := fun c => by
  constructor
  · intro h
    have h2 := congrArg tl h
    rw [show tl ("0" : Str) = [48] by decide +kernel] at h2
    have h3 : [c] = [48] := h2
    simpa using h3
  · rintro rfl
    decide +kernel
/-- texts that are digits, as lists -/
theorem isDig_iff (z : Str) : isDig z = true ↔ tl z ≠ [] ∧ NumText.AllDigits (tl z) ∧ (tl z = [48] ∨ (tl z).getD 0 0 ≠ 48) := by
  have e0 : (z = "") ↔ tl z = [] := ⟨fun h => by rw [h]; rfl, fun h => ext_tl (by rw [h]; rfl)⟩
  have e1 : (z = "0") ↔ tl z = [48] := ⟨fun h => by rw [h]; decide +kernel, fun h => ext_tl (by rw [h]; decide +kernel)⟩
  unfold isDig
  simp only [Bool.and_eq_true, Bool.or_eq_true, Bool.not_eq_true', decide_eq_true_eq, decide_eq_false_iff_not, List.all_eq_true, dig_one, mem_fig]
  rw [e0, e1]
  constructor
  · rintro ⟨⟨h1, h2⟩, h3⟩
    exact ⟨h1, fun c hc => h2 c hc, h3⟩
  · rintro ⟨h1, h2, h3⟩
    exact ⟨⟨h1, fun c hc => h2 c hc⟩, h3⟩
theorem dg_dig (n : Nat) : isDig (dg n) = true := by
  rw [isDig_iff, dg_tl]
  refine ⟨numL_ne n, numL_digits n, ?_⟩
  by_cases h : n = 0
  · left
    subst h
    exact numL_lt (by decide)
  · right
    intro e
    cases hn : numL n with
    | nil => exact numL_ne n hn
    | cons c r =>
      rw [hn] at e
      have ec : c = 48 := e
      subst ec
      have v := numL_val n
      rw [hn, NumText.digitsVal_zero] at v
      have hr : NumText.AllDigits r := fun d hd => numL_digits n d (by rw [hn]; exact List.mem_cons_of_mem _ hd)
      have t := NumText.toDigits_all (48 :: r) (by rw [← hn]; exact numL_digits n)
      rw [NumText.digitsVal_zero, v] at t
      have l1 : (Nat.toDigits 10 n).length = r.length + 1 := by
        have := congrArg List.length hn
        unfold numL at this
        rw [List.length_map] at this
        exact this
      rw [t] at l1
      rw [List.dropWhile_cons, if_pos (by decide)] at l1
      have l2 : (r.dropWhile (· == 48)).length ≤ r.length := (List.dropWhile_sublist _).length_le
      cases hd : r.dropWhile (· == 48) with
      | nil =>
        rw [hd] at l1
        have hr0 : r = [] := by
          cases r with
          | nil => rfl
          | cons _ _ => simp at l1
        rw [hr0] at v
        exact h v.symm
      | cons d s =>
        rw [hd] at l1 l2
        simp only [List.length_map, List.length_cons] at l1 l2
        omega
/-- texts that are digits are the digits of their worth -/
theorem dig_back {z : Str} (h : isDig z = true) : z = dg (NumText.digitsVal (tl z)) := by
  obtain ⟨h1, h2, h3⟩ := (isDig_iff z).mp h
  refine ext_tl ?_
  rw [dg_tl]
  unfold numL
  cases hz : tl z with
  | nil => exact absurd hz h1
  | cons c r =>
    rw [hz] at h2 h3
    have hc := h2 c (List.mem_cons_self ..)
    rw [NumText.toDigits_digitsVal r.length (c :: r) rfl h2 (by
      rcases h3 with h3 | h3
      · left
        have : r = [] := by simpa using (List.cons.inj h3).2
        rw [this]; rfl
      · right
        refine ⟨c, r, rfl, ?_⟩
        have : c ≠ 48 := h3
        omega)]
    rw [List.map_map]
    symm
    have : ∀ l : List Nat, NumText.AllDigits l → l.map (Char.toNat ∘ Char.ofNat) = l := fun l hl => by
      induction l with
      | nil => rfl
      | cons d s ih =>
        have hd := hl d (List.mem_cons_self ..)
        rw [List.map_cons, ih fun x hx => hl x (List.mem_cons_of_mem _ hx)]
        have e : ∀ k : Fin 58, (Char.toNat ∘ Char.ofNat) (k : Nat) = (k : Nat) := by decide +kernel
        have := e ⟨d, by omega⟩
        rw [this]
    exact this _ h2
theorem dg_int {n : Nat} (h : (dg n).length ≤ 4300) : PySem.intText? (dg n) = some (n : Int) := int_num (by rw [← dg_len]; exact h)
theorem dg_inj {m n : Nat} (h : dg m = dg n) : m = n := numL_inj (by rw [← dg_tl, ← dg_tl, h])
theorem dg_zero : dg 0 = "0" := by decide +kernel
theorem dg_one : dg 1 = "1" := by decide +kernel
theorem dg_free {n s : Nat} (h : s < 48 ∨ 57 < s) : s ∉ tl (dg n) := by rw [dg_tl]; exact numL_free h
/-- the text of an integer -/
def tx (i : Int) : Str := Str.ofString (toString i)
theorem tx_nn (n : Nat) : tx (n : Int) = dg n := rfl
theorem tl_minus : tl ("-" : Str) = [45] := by decide +kernel
theorem tl_slash : tl ("/" : Str) = [47] := by decide +kernel
theorem tx_neg {i : Int} (h : i < 0) : tx i = ("-" : Str) ++ dg i.natAbs := by
  obtain ⟨n, rfl⟩ : ∃ n : Nat, i = Int.negSucc n := by
    cases i with
    | ofNat n => exact absurd h (by simp)
    | negSucc n => exact ⟨n, rfl⟩
  refine ext_tl ?_
  rw [tl_append, tl_minus, dg_tl]
  unfold tx
  rw [tl_ofString]
  show ("-" ++ Nat.repr (n + 1)).toList.map Char.toNat = _
  rw [String.toList_append, List.map_append, Nat.toList_repr]
  rfl
theorem tx_abs (i : Int) : tx (i.natAbs : Int) = dg i.natAbs := rfl
/-! ### the slices -/
def mk (l : List Nat) : Str := ⟨l.toArray⟩
theorem tl_mk2 (l : List Nat) : tl (mk l) = l := rfl
theorem cut_to (z : Str) (k : Nat) : L2.cutS z none (some (k : Int)) = mk ((tl z).take k) := by
  refine ext_tl ?_
  show ((tl z).drop (HT.sIx z.length 0 none)).take (HT.sIx z.length z.length (some (k : Int)) - HT.sIx z.length 0 none) = (tl z).take k
  rw [HT.sIx_none, HT.sIx_nat, Nat.sub_zero, List.drop_zero, len_tl]
  rcases Nat.le_total k (tl z).length with h | h
  · rw [Nat.min_eq_left h]
  · rw [Nat.min_eq_right h, List.take_length, List.take_of_length_le h]
theorem cut_from (z : Str) (k : Nat) : L2.cutS z (some (k : Int)) none = mk ((tl z).drop k) := by
  refine ext_tl ?_
  show ((tl z).drop (HT.sIx z.length 0 (some (k : Int)))).take (HT.sIx z.length z.length none - HT.sIx z.length 0 (some (k : Int))) = (tl z).drop k
  rw [HT.sIx_none, HT.sIx_nat, len_tl]
  rcases Nat.le_total k (tl z).length with h | h
  · rw [Nat.min_eq_left h]
    exact List.take_of_length_le (by rw [List.length_drop]; omega)
  · rw [Nat.min_eq_right h, List.drop_of_length_le (Nat.le_refl _), List.drop_of_length_le h]
    exact List.take_nil
/-! ### the parts of a text -/
def minusOf (z : Str) : Bool := decide (L2.cutS z none (some 1) = "-")
def bodyOf (z : Str) : Str := if minusOf z = true then L2.cutS z (some 1) none else z
def valOf (z : Str) : Int := ((NumText.digitsVal (tl z) : Nat) : Int)
def sgOf (z h : Str) : Int := if minusOf z = true then -(valOf h) else valOf h
def partsOf (z : Str) : Option (Int × Int) :=
  if isDig (Txt.partition (bodyOf z) "/").1 = true then
    (if (Txt.partition (bodyOf z) "/").2.1 = "" then some (sgOf z (Txt.partition (bodyOf z) "/").1, 1)
    else if isDig (Txt.partition (bodyOf z) "/").2.2 = true ∧ (Txt.partition (bodyOf z) "/").2.2 ≠ "0" then some (sgOf z (Txt.partition (bodyOf z) "/").1, valOf (Txt.partition (bodyOf z) "/").2.2) else none)
  else none
theorem val_dg (n : Nat) : valOf (dg n) = n := by
  unfold valOf
  rw [dg_tl, numL_val]
theorem minus_of_free {z : Str} (h : 45 ∉ tl z) : minusOf z = false := by
  unfold minusOf
  refine decide_eq_false fun e => h ?_
  have e2 := congrArg tl e
  rw [show (some (1 : Int)) = some ((1 : Nat) : Int) from rfl, cut_to, tl_mk2, tl_minus] at e2
  exact List.mem_of_mem_take (by rw [e2]; exact List.mem_cons_self ..)
theorem minus_of_minus (z : Str) : minusOf (("-" : Str) ++ z) = true ∧ bodyOf (("-" : Str) ++ z) = z := by
  have h1 : minusOf (("-" : Str) ++ z) = true := by
    unfold minusOf
    refine decide_eq_true (ext_tl ?_)
    rw [show (some (1 : Int)) = some ((1 : Nat) : Int) from rfl, cut_to, tl_mk2, tl_append, tl_minus]
    rfl
  refine ⟨h1, ?_⟩
  unfold bodyOf
  rw [if_pos h1]
  refine ext_tl ?_
  rw [show (some (1 : Int)) = some ((1 : Nat) : Int) from rfl, cut_from, tl_mk2, tl_append, tl_minus]
  rfl
theorem body_free {z : Str} (h : 45 ∉ tl z) : bodyOf z = z := by
  unfold bodyOf
  rw [minus_of_free h]
  rfl
theorem part_dg (n : Nat) : Txt.partition (dg n) "/" = (dg n, Str.empty, Str.empty) := partition_none (s := 47) (S := []) tl_slash (dg_free (by omega))
theorem part_fr (n d : Nat) : Txt.partition (dg n ++ ("/" : Str) ++ dg d) "/" = (dg n, ("/" : Str), dg d) := partition_app (s := 47) (S := []) tl_slash (dg_free (by omega))
theorem slash_ne : ("/" : Str) ≠ "" := by decide +kernel
theorem dg_ne0 {d : Nat} (h : 0 < d) : dg d ≠ "0" := fun e => by
  rw [← dg_zero] at e
  have := dg_inj e
  omega
theorem parse_pos (n : Nat) : partsOf (dg n) = some ((n : Int), 1) := by
  have hf : 45 ∉ tl (dg n) := dg_free (by omega)
  unfold partsOf sgOf
  rw [body_free hf, minus_of_free hf, part_dg]
  dsimp only
  rw [if_pos (dg_dig n), if_pos (show Str.empty = ("" : Str) from rfl), if_neg Bool.false_ne_true, val_dg]
theorem parse_neg (n : Nat) : partsOf (("-" : Str) ++ dg n) = some (-(n : Int), 1) := by
  obtain ⟨h1, h2⟩ := minus_of_minus (dg n)
  unfold partsOf sgOf
  rw [h1, h2, part_dg]
  dsimp only
  rw [if_pos (dg_dig n), if_pos (show Str.empty = ("" : Str) from rfl), if_pos rfl, val_dg]
theorem parse_posF (n : Nat) {d : Nat} (hd : 0 < d) : partsOf (dg n ++ ("/" : Str) ++ dg d) = some ((n : Int), (d : Int)) := by
  have hf : 45 ∉ tl (dg n ++ ("/" : Str) ++ dg d) := by
    rw [tl_append, tl_append, tl_slash]
    simp only [List.mem_append, List.mem_singleton]
    rintro ((h | h) | h)
    · exact dg_free (by omega) h
    · omega
    · exact dg_free (by omega) h
  unfold partsOf sgOf
  rw [body_free hf, minus_of_free hf, part_fr]
  dsimp only
  rw [if_pos (dg_dig n), if_neg slash_ne, if_pos ⟨dg_dig d, dg_ne0 hd⟩, if_neg Bool.false_ne_true, val_dg, val_dg]
theorem parse_negF (n : Nat) {d : Nat} (hd : 0 < d) : partsOf (("-" : Str) ++ (dg n ++ ("/" : Str) ++ dg d)) = some (-(n : Int), (d : Int)) := by
  obtain ⟨h1, h2⟩ := minus_of_minus (dg n ++ ("/" : Str) ++ dg d)
  unfold partsOf sgOf
  rw [h1, h2, part_fr]
  dsimp only
  rw [if_pos (dg_dig n), if_neg slash_ne, if_pos ⟨dg_dig d, dg_ne0 hd⟩, if_pos rfl, val_dg, val_dg]
theorem parse_int (i : Int) : partsOf (tx i) = some (i, 1) := by
  by_cases h : i < 0
  · rw [tx_neg h, parse_neg]
    have : -((i.natAbs : Nat) : Int) = i := by omega
    rw [this]
  · obtain ⟨n, rfl⟩ := Int.eq_ofNat_of_zero_le (show 0 ≤ i by omega)
    exact parse_pos n
theorem app_assoc (a b c : Str) : a ++ b ++ c = a ++ (b ++ c) := ext_tl (by rw [tl_append, tl_append, tl_append, tl_append, List.append_assoc])
theorem parse_frac (i : Int) {d : Nat} (hd : 0 < d) : partsOf (tx i ++ ("/" : Str) ++ dg d) = some (i, (d : Int)) := by
  by_cases h : i < 0
  · rw [tx_neg h, app_assoc, app_assoc, ← app_assoc (dg _), parse_negF _ hd]
    have : -((i.natAbs : Nat) : Int) = i := by omega
    rw [this]
  · obtain ⟨n, rfl⟩ := Int.eq_ofNat_of_zero_le (show 0 ≤ i by omega)
    exact parse_posF n hd
/-! ### find, and the pieces around what it finds -/
theorem find_split {b : Str} (h : 47 ∈ tl b) : ∃ k : Nat, Txt.find b "/" = (k : Int) ∧ k < b.length ∧ Txt.partition b "/" = (L2.cutS b none (some (k : Int)), ("/" : Str), L2.cutS b (some ((k + 1 : Nat) : Int)) none) := by
  rcases StrLaws.occ_head b "/" 1 (Nat.le_refl 1) with ⟨_, hn⟩ | ⟨i, r, h0, hi, hn⟩
  · obtain ⟨j, hj⟩ := List.getElem?_of_mem h
    exact absurd ((StrLaws.subAt_one b 47 j).mpr hj) (fun z => hn j z)
  · refine ⟨i, ?_, ?_, ?_⟩
    · unfold Txt.find
      rw [h0]
    · have := hi.1
      have e : ("/" : Str).length = 1 := by decide +kernel
      omega
    · unfold Txt.partition
      rw [h0]
      have e : ("/" : Str).length = 1 := by decide +kernel
      have t1 : Builtin.Str.strSub b 0 i = L2.cutS b none (some (i : Int)) := ext_tl (by rw [tl_strSub, cut_to, tl_mk2, List.drop_zero, Nat.sub_zero])
      have t2 : Builtin.Str.strSub b (i + ("/" : Str).length) b.length = L2.cutS b (some ((i + 1 : Nat) : Int)) none := ext_tl (by rw [e, tl_strSub_end, cut_from, tl_mk2])
      show (Builtin.Str.strSub b 0 i, ("/" : Str), Builtin.Str.strSub b (i + ("/" : Str).length) b.length) = _
      rw [t1, t2]
theorem part_free {b : Str} (h : 47 ∉ tl b) : Txt.partition b "/" = (b, Str.empty, Str.empty) := partition_none (s := 47) (S := []) tl_slash h
end K00
end
section
set_option Elab.async false
set_option linter.all false
set_option maxRecDepth 100000
set_option maxHeartbeats 4000000
namespace K00
open PySem PySem.Spec PyProof.Rows L2 LamX U Evl TL L2H HotX LHot LX LV NdefX LW
/-! ### steps, by program -/
local macro_rules | `(tactic| walk_at "kp") => `(tactic| first
  | assumption
  | exact sqA_of (by assumption)
  | exact sqB_of (by assumption)
  | exact sqL_of (by assumption)
  | exact sqT_of (by assumption)
  | exact Or.inl (by assumption)
  | exact Or.inr (by assumption)
  | exact Gr.refl _ _
  | exact GrA.gr (by assumption)
  | (apply Gr.trans ?_ (by first | assumption | exact GrA.gr (by assumption)); walk_at "kp")
  | (apply Gr.xd; (first | assumption | exact GrA.gr (T := []) (by assumption)); walk_at "kp")
  | (apply Gr.sq; (first | assumption | exact GrA.gr (T := []) (by assumption)); walk_at "kp")
  | (apply Gr.sqL; (first | assumption | exact GrA.gr (T := []) (by assumption)); walk_at "kp")
  | (apply Gr.sqT; (first | assumption | exact GrA.gr (T := []) (by assumption)); walk_at "kp")
  | (apply Gr.lst; (first | assumption | exact GrA.gr (T := []) (by assumption)); walk_at "kp")
  | (apply Gr.tup; (first | assumption | exact GrA.gr (T := []) (by assumption)); walk_at "kp"))
local macro_rules | `(tactic| walk_at "s") => `(tactic| first
  | with_reducible first
    | refine w_seq ?_ | refine w_asg ?_ | refine w_gname ?_ | refine w_if ?_ | refine w_ret ?_ | refine w_next ?_ | refine w_drop ?_ | refine w_retN ?_ | refine w_brk ?_ | refine w_cont ?_ | refine w_gsub ?_
    | refine w_op ?_ | refine w_c ?_ | refine w_nil ?_ | refine w_cons ?_ | refine w_cb ?_ | refine w_un ?_
    | refine w_I0 ?_ | refine w_U ?_ | refine w_add ?_ | refine w_test ?_ | refine w_tB ?_ | refine w_tr ?_ | refine w_exn ?_ | refine w_trn ?_ | refine w_and ?_ | refine w_or ?_ | refine w_not ?_ | refine w_andV ?_ | refine w_orV ?_ | refine w_notV ?_ | refine w_ifE ?_
    | refine w_eqI ?_ | refine w_neI ?_ | refine w_eqS ?_ | refine w_neS ?_ | refine w_eqB ?_ | refine w_neB ?_ | refine w_isNo ?_ | refine w_notN ?_
    | refine w_call0 ?_ | refine w_tupK ?_ | refine w_lstK ?_ | refine w_bm ?_ | refine w_nop ?_ | refine w_part ?_ | refine w_exi ?_ | refine w_sl ?_
    | refine w_lcS ?_ | refine w_lcR1 ?_ | refine w_lcR2 ?_ | refine w_lcE ?_ | refine w_frS ?_ | refine w_frR1 ?_ | refine w_frR2 ?_ | refine w_frE ?_ | refine w_frT ?_
    | refine w_tYes ?_ | refine w_lcH ?_ | refine w_callE ?_ | refine w_iteD ?_ | refine w_iteND ?_ | refine w_raise ?_ | refine raK1 ?_ | refine raK2 ?_ | refine w_iteNT ?_ | refine w_iteNF ?_ | refine w_ckw ?_ | refine w_callN ?_ | refine w_m1 ?_ | refine w_yes1 ?_ | refine w_iteT ?_ | refine w_iteF ?_ | refine w_abs ?_ | refine w_max2 ?_ | refine w_max3 ?_ | refine w_min2 ?_ | refine w_intI ?_
  | (with_reducible apply w_var; with_unfolding_all rfl)
  | (with_reducible apply w_lenI; walk_at "kp")
  | (with_reducible apply w_len; walk_at "kp")
  | (with_reducible apply w_sum; walk_at "kp")
  | (with_reducible refine lstK ?_ ?_; exact Nat.le_of_ble_eq_true rfl)
  | (with_reducible refine tupK ?_ ?_; exact Nat.le_of_ble_eq_true rfl)
  | (with_reducible apply w_list; walk_at "kp")
  | (with_reducible apply w_tuple; walk_at "kp")
  | (with_reducible apply w_slI; walk_at "kp")
  | (with_reducible apply w_inI; walk_at "kp")
  | (with_reducible apply w_notInI; walk_at "kp"))
local macro_rules | `(tactic| walk_at "go") => `(tactic| repeat' (walk_at "s"))
variable {K : PySem.W.Frag} {T : List (Addr × Str)}
/-! ### numbers that are not too long -/
def Sm (i : Int) : Prop := i.natAbs < 10 ^ 130
def nd (i : Int) : Nat := (dg i.natAbs).length
theorem Sm.bits {i : Int} (h : Sm i) : i.natAbs < 2 ^ 432 := Nat.lt_trans h (by decide +kernel)
theorem Sm.log {i : Int} (h : Sm i) : i.natAbs.log2 < 432 := by
  by_cases e : i.natAbs = 0
  · rw [e]; decide
  · exact (Nat.log2_lt e).mpr h.bits
theorem nd_le {i : Int} (h : Sm i) : nd i ≤ 130 := dg_le (by decide) h
theorem w_gt2 {H : Hp} {p : Addr} {x y : V} {i j : Nat} {σ : L2.St} {QS : L2.St → Hp → Prop} (h : SqT K H p [x, y]) (q : QS ((σ.set i (some x)).set j (some y)) H) : gTup K 2 (gCons (gName i) (gCons (gName j) gNil)) (.ref p) σ H QS := by
  refine ⟨p, [x, y], rfl, h, rfl, ?_⟩
  exact ⟨x, _, rfl, y, _, rfl, rfl, q⟩
theorem w_gt3 {H : Hp} {p : Addr} {x y z : V} {i j k : Nat} {σ : L2.St} {QS : L2.St → Hp → Prop} (h : SqT K H p [x, y, z]) (q : QS (((σ.set i (some x)).set j (some y)).set k (some z)) H) : gTup K 3 (gCons (gName i) (gCons (gName j) (gCons (gName k) gNil))) (.ref p) σ H QS := by
  refine ⟨p, [x, y, z], rfl, h, rfl, ?_⟩
  exact ⟨x, _, rfl, y, _, rfl, z, _, rfl, rfl, q⟩
/-! ### the program -/
def spAskDigits (K : PySem.W.Frag) (T : List (Addr × Str)) : Sp := fun vs H Q E => ∃ n : Int, vs = [.int n] ∧ (n ≤ 60 → Q .non H) ∧ (60 < n → ∀ d H', Gr T H H' → H' d = some (.xd [("count", .int n), ("what", .str "digits")]) → E (.ref (He.ga K "TooMany")) (some d) H')
theorem rd_ask_digits : ∀ vs H Q (E : XK), spAskDigits K T vs H Q E → t_ask_digits K E (E_ Q) (start ["count"] vs) H := by
  intro vs H Q E h
  obtain ⟨n, rfl, q1, q2⟩ := h
  unfold t_ask_digits
  walk_at "go"
  refine w_dec (fun e => ?_) (fun e => ?_)
  · walk_at "go"
    intro d H' g hd
    exact q2 (by omega) d H' (g T) hd
  · walk_at "go"
    exact q1 (by omega)
def spTenTo : Sp := fun vs H Q _ => ∃ n : Nat, vs = [.int (n : Int)] ∧ n ≤ 300 ∧ Q (.int (10 ^ n : Nat)) H
theorem p10 {k m : Nat} (h : k ≤ m) : (((10 ^ k : Nat) : Int)).natAbs < 2 ^ (4 * m + 1) := by
  rw [Int.natAbs_natCast]
  calc 10 ^ k ≤ 16 ^ k := Nat.pow_le_pow_left (by decide) k
    _ ≤ 16 ^ m := Nat.pow_le_pow_right (by decide) h
    _ = 2 ^ (4 * m) := by rw [show (16 : Nat) = 2 ^ 4 from rfl, ← Nat.pow_mul]
    _ < 2 ^ (4 * m + 1) := Nat.pow_lt_pow_right (by decide) (by omega)
theorem mul10 {a b m : Nat} (ha : a ≤ 300) (hb : b ≤ 300) : CMulW ((10 ^ a : Nat) : Int) ((10 ^ b : Nat) : Int) := wide_mul (p10 ha) (p10 hb) (by decide) (by decide) (by decide)
theorem rd_ten_to : ∀ vs H Q (E : XK), spTenTo vs H Q E → t_ten_to K (E_ Q) (start ["count", "result", "base", "left"] vs) H := by
  intro vs H Q E h
  obtain ⟨n, rfl, hn, q⟩ := h
  unfold t_ten_to
  walk_at "go"
  refine ⟨fun m σ H' => H' = H ∧ ∃ r b : Nat, σ = [some (.int (n : Int)), some (.int ((10 ^ r : Nat) : Int)), some (.int ((10 ^ b : Nat) : Int)), some (.int (m : Int))] ∧ r + b * m = n, ⟨n, rfl, 0, 1, rfl, by omega⟩, fun m σ H' p => ?_⟩
  obtain ⟨rfl, r, b, rfl, hs⟩ := p
  walk_at "go"
  refine w_dec (fun e => ?_) (fun e => ?_)
  · refine ⟨fun σ' H2 => ∃ m', m' < m ∧ (H2 = H' ∧ ∃ r b : Nat, σ' = [some (.int (n : Int)), some (.int ((10 ^ r : Nat) : Int)), some (.int ((10 ^ b : Nat) : Int)), some (.int (m' : Int))] ∧ r + b * m' = n), fun _ _ z => z, ?_⟩
    have hm : 0 < m := by omega
    have hb : b ≤ 300 := Nat.le_trans (Nat.le_trans (Nat.le_mul_of_pos_right b hm) (by omega : b * m ≤ n)) hn
    have hbit : Builtin.bitAnd (m : Int) 1 = ((m % 2 : Nat) : Int) := by
      have := Bits.bitAnd_mask (x := (m : Int)) 1 (by omega)
      rw [show ((2 : Int) ^ 1 - 1) = 1 from rfl] at this
      rw [this]
      omega
    -- behind the test for odd
    have rest : ∀ r' : Nat, r' + b * (2 * (m / 2)) = n → (tSeq (tAsg (tOp qFdivW (tVar 3) (tC (.int 2))) (gName 3)) (tIfS (tTest (tOp qGt (tVar 3) (tC (.int 0)))) (tAsg (tOp qMulW (tVar 2) (tVar 2)) (gName 2)) tNext)) { (E_ Q) with nx := fun σ' H2 => ∃ m', m' < m ∧ (H2 = H' ∧ ∃ r b : Nat, σ' = [some (.int (n : Int)), some (.int ((10 ^ r : Nat) : Int)), some (.int ((10 ^ b : Nat) : Int)), some (.int (m' : Int))] ∧ r + b * m' = n), ct := fun σ' H2 => ∃ m', m' < m ∧ (H2 = H' ∧ ∃ r b : Nat, σ' = [some (.int (n : Int)), some (.int ((10 ^ r : Nat) : Int)), some (.int ((10 ^ b : Nat) : Int)), some (.int (m' : Int))] ∧ r + b * m' = n), bk := fun σ H => tRet (tVar 1) (E_ Q) σ H } [some (.int (n : Int)), some (.int ((10 ^ r' : Nat) : Int)), some (.int ((10 ^ b : Nat) : Int)), some (.int (m : Int))] H' := by
      intro r' hr'
      walk_at "go"
      refine w_I (wide_div (b := 2) (by decide) (by decide) (by decide) (by decide)) ?_
      have e2 : ((m : Int) / 2) = ((m / 2 : Nat) : Int) := by omega
      rw [e2]
      walk_at "go"
      refine w_dec (fun e3 => ?_) (fun e3 => ?_)
      · walk_at "go"
        refine w_I (mul10 (m := 0) hb hb) ?_
        walk_at "go"
        refine ⟨m / 2, by omega, rfl, r', b + b, ?_, ?_⟩
        · rw [← Int.natCast_mul, ← Nat.pow_add]
          rfl
        · rw [← Nat.two_mul, Nat.mul_comm 2 b, Nat.mul_assoc]
          exact hr'
      · walk_at "go"
        refine ⟨m / 2, by omega, rfl, r', b, rfl, ?_⟩
        have e4 : m / 2 = 0 := by omega
        rw [e4] at hr' ⊢
        simpa using hr'
    walk_at "go"
    rw [hbit]
    refine w_dec (fun e3 => ?_) (fun e3 => ?_)
    · have hodd : m = 2 * (m / 2) + 1 := by omega
      have hrb : r + b ≤ 300 := by
        have : b * m = b * (2 * (m / 2)) + b := by
          conv => lhs; rw [hodd]
          rw [Nat.mul_add, Nat.mul_one]
        omega
      walk_at "s"
      walk_at "s"
      walk_at "s"
      walk_at "s"
      refine w_I (mul10 (m := 0) (by omega) hb) ?_
      walk_at "s"
      rw [← Int.natCast_mul, ← Nat.pow_add]
      refine rest (r + b) ?_
      have : b * m = b * (2 * (m / 2)) + b := by
        conv => lhs; rw [hodd]
        rw [Nat.mul_add, Nat.mul_one]
      omega
    · have hev : m = 2 * (m / 2) := by omega
      walk_at "s"
      refine rest r ?_
      rw [← hev]
      exact hs
  · walk_at "go"
    have hm : m = 0 := by omega
    subst hm
    have : r = n := by omega
    rw [this]
    exact q
end K00
end
section
set_option Elab.async false
set_option linter.all false
set_option maxRecDepth 100000
set_option maxHeartbeats 4000000
namespace K00
open PySem PySem.Spec PyProof.Rows L2 LamX U Evl TL L2H HotX LHot LX LV NdefX LW
/-! ### steps, by program -/
local macro_rules | `(tactic| walk_at "kp") => `(tactic| first
  | assumption
  | exact sqA_of (by assumption)
  | exact sqB_of (by assumption)
  | exact sqL_of (by assumption)
  | exact sqT_of (by assumption)
  | exact Or.inl (by assumption)
  | exact Or.inr (by assumption)
  | exact Gr.refl _ _
  | exact GrA.gr (by assumption)
  | (apply Gr.trans ?_ (by first | assumption | exact GrA.gr (by assumption)); walk_at "kp")
  | (apply Gr.xd; (first | assumption | exact GrA.gr (T := []) (by assumption)); walk_at "kp")
  | (apply Gr.sq; (first | assumption | exact GrA.gr (T := []) (by assumption)); walk_at "kp")
  | (apply Gr.sqL; (first | assumption | exact GrA.gr (T := []) (by assumption)); walk_at "kp")
  | (apply Gr.sqT; (first | assumption | exact GrA.gr (T := []) (by assumption)); walk_at "kp")
  | (apply Gr.lst; (first | assumption | exact GrA.gr (T := []) (by assumption)); walk_at "kp")
  | (apply Gr.tup; (first | assumption | exact GrA.gr (T := []) (by assumption)); walk_at "kp"))
local macro_rules | `(tactic| walk_at "s") => `(tactic| first
  | with_reducible first
    | refine w_seq ?_ | refine w_asg ?_ | refine w_gname ?_ | refine w_if ?_ | refine w_ret ?_ | refine w_next ?_ | refine w_drop ?_ | refine w_retN ?_ | refine w_brk ?_ | refine w_cont ?_ | refine w_gsub ?_
    | refine w_op ?_ | refine w_c ?_ | refine w_nil ?_ | refine w_cons ?_ | refine w_cb ?_ | refine w_un ?_
    | refine w_I0 ?_ | refine w_U ?_ | refine w_add ?_ | refine w_test ?_ | refine w_tB ?_ | refine w_tr ?_ | refine w_exn ?_ | refine w_trn ?_ | refine w_and ?_ | refine w_or ?_ | refine w_not ?_ | refine w_andV ?_ | refine w_orV ?_ | refine w_notV ?_ | refine w_ifE ?_
    | refine w_eqI ?_ | refine w_neI ?_ | refine w_eqS ?_ | refine w_neS ?_ | refine w_eqB ?_ | refine w_neB ?_ | refine w_isNo ?_ | refine w_notN ?_
    | refine w_call0 ?_ | refine w_tupK ?_ | refine w_lstK ?_ | refine w_bm ?_ | refine w_nop ?_ | refine w_part ?_ | refine w_exi ?_ | refine w_sl ?_
    | refine w_lcS ?_ | refine w_lcR1 ?_ | refine w_lcR2 ?_ | refine w_lcE ?_ | refine w_frS ?_ | refine w_frR1 ?_ | refine w_frR2 ?_ | refine w_frE ?_ | refine w_frT ?_
    | refine w_tYes ?_ | refine w_lcH ?_ | refine w_callE ?_ | refine w_iteD ?_ | refine w_iteND ?_ | refine w_raise ?_ | refine raK1 ?_ | refine raK2 ?_ | refine w_iteNT ?_ | refine w_iteNF ?_ | refine w_ckw ?_ | refine w_callN ?_ | refine w_m1 ?_ | refine w_yes1 ?_ | refine w_iteT ?_ | refine w_iteF ?_ | refine w_abs ?_ | refine w_max2 ?_ | refine w_max3 ?_ | refine w_min2 ?_ | refine w_intI ?_
  | (with_reducible apply w_var; with_unfolding_all rfl)
  | (with_reducible apply w_lenI; walk_at "kp")
  | (with_reducible apply w_len; walk_at "kp")
  | (with_reducible apply w_sum; walk_at "kp")
  | (with_reducible refine lstK ?_ ?_; exact Nat.le_of_ble_eq_true rfl)
  | (with_reducible refine tupK ?_ ?_; exact Nat.le_of_ble_eq_true rfl)
  | (with_reducible apply w_list; walk_at "kp")
  | (with_reducible apply w_tuple; walk_at "kp")
  | (with_reducible apply w_slI; walk_at "kp")
  | (with_reducible apply w_inI; walk_at "kp")
  | (with_reducible apply w_notInI; walk_at "kp"))
local macro_rules | `(tactic| walk_at "go") => `(tactic| repeat' (walk_at "s"))
variable {K : PySem.W.Frag} {T : List (Addr × Str)}
def spDigits : Sp := fun vs H Q _ => ∃ i : Int, vs = [.int i] ∧ Sm i ∧ Q (.int (nd i : Nat)) H
theorem b10 : ∀ k : Fin 440, 10 ^ ((k : Nat) * 30102 / 100000) ≤ 2 ^ (k : Nat) := by decide +kernel
theorem nd_at {n c : Nat} (h1 : 10 ^ c ≤ n * 10) (h2 : n < 10 ^ c) (h0 : 0 < n) : (dg n).length = c := by
  have hc : 0 < c := by
    cases c with
    | zero => omega
    | succ _ => omega
  have l1 := dg_le hc h2
  obtain ⟨k, rfl⟩ : ∃ k, c = k + 1 := ⟨c - 1, by omega⟩
  have l2 : k + 1 ≤ (dg n).length := dg_ge (by rw [Nat.pow_succ] at h1; omega)
  omega
theorem rd_digit_count : ∀ vs H Q (E : XK), spDigits vs H Q E → t_digit_count K spTenTo (E_ Q) (start ["number", "size", "count", "power"] vs) H := by
  intro vs H Q E h
  obtain ⟨i, rfl, hi, q⟩ := h
  unfold t_digit_count
  unfold nd at q
  have hlog := hi.log
  unfold Sm at hi
  generalize hn : i.natAbs = n at *
  walk_at "go"
  rw [hn]
  refine w_dec (fun e => ?_) (fun e => ?_)
  · walk_at "go"
    have : (dg n).length = 1 := by
      have h1 := dg_le (n := n) (k := 1) (by decide) (by omega)
      have h2 := dg_pos n
      omega
    rw [this] at q
    exact q
  · walk_at "go"
    have hn0 : n ≠ 0 := by omega
    have hb : Builtin.Int.intBits (n : Int) = n.log2 + 1 := by
      unfold Builtin.Int.intBits
      rw [if_neg (by simp; omega), Int.natAbs_natCast]
    refine w_bits (w_var rfl ⟨_, rfl, ?_⟩)
    rw [hb]
    walk_at "go"
    refine w_mul (.inr ⟨by decide, by decide⟩) ?_
    walk_at "go"
    refine w_I ⟨by decide, by decide⟩ ?_
    have ec : ((((n.log2 + 1 : Nat) : Int) - 1) * 30102 / 100000) = ((n.log2 * 30102 / 100000 : Nat) : Int) := by omega
    rw [ec]
    walk_at "go"
    generalize hk : n.log2 * 30102 / 100000 = c0
    have hc0 : c0 ≤ 300 := by omega
    have hp0 : 10 ^ c0 ≤ n := by
      have h1 := b10 ⟨n.log2, by omega⟩
      have h2 : 2 ^ n.log2 ≤ n := Nat.log2_self_le hn0
      rw [← hk]
      exact Nat.le_trans h1 h2
    refine ⟨c0, rfl, hc0, ?_⟩
    walk_at "go"
    refine ⟨fun m σ H' => H' = H ∧ ∃ c : Nat, σ = [some (.int i), some (.int (n : Int)), some (.int (c : Int)), some (.int ((10 ^ c : Nat) : Int))] ∧ c + m = 131 ∧ 10 ^ c ≤ n * 10, ⟨131 - c0, rfl, c0, rfl, ?_, by omega⟩, fun m σ H' p => ?_⟩
    · have : c0 < 131 := by
        refine Nat.lt_of_not_le fun hle => ?_
        have : 10 ^ 131 ≤ 10 ^ c0 := Nat.pow_le_pow_right (by decide) hle
        have : (10 : Nat) ^ 130 ≤ 10 ^ 131 := Nat.pow_le_pow_right (by decide) (by decide)
        omega
      omega
    · obtain ⟨rfl, c, rfl, hm, hc⟩ := p
      walk_at "go"
      refine w_dec (fun e2 => ?_) (fun e2 => ?_)
      · have e3 : 10 ^ c ≤ n := by exact_mod_cast e2
        have hcl : c < 130 := by
          refine Nat.lt_of_not_le fun hle => ?_
          have : 10 ^ 130 ≤ 10 ^ c := Nat.pow_le_pow_right (by decide) hle
          omega
        refine ⟨fun σ' H2 => ∃ m', m' < m ∧ (H2 = H' ∧ ∃ c : Nat, σ' = [some (.int i), some (.int (n : Int)), some (.int (c : Int)), some (.int ((10 ^ c : Nat) : Int))] ∧ c + m' = 131 ∧ 10 ^ c ≤ n * 10), fun _ _ z => z, ?_⟩
        walk_at "go"
        refine w_mul (.inr ⟨by decide, by decide⟩) ?_
        walk_at "go"
        refine ⟨m - 1, by omega, rfl, c + 1, ?_, by omega, by rw [Nat.pow_succ]; omega⟩
        rw [Nat.pow_succ]
        rfl
      · have e3 : n < 10 ^ c := by
          have : ¬ (10 ^ c ≤ n) := fun z => e2 (by exact_mod_cast z)
          omega
        walk_at "go"
        rw [nd_at hc e3 (by omega)] at q
        exact q
/-! ### what is a whole number -/
inductive Kx (K : PySem.W.Frag) (H : Hp) : V → Prop
  | kd {x : V} (h : Kd K H x) : Kx K H x
  | dct {p : Addr} {kvs : List (Key × V)} (h : H p = some (.dK kvs)) : Kx K H (.ref p)
theorem Gr.kx {H H' : Hp} {x : V} (g : Gr T H H') (h : Kx K H x) : Kx K H' x := by
  cases h with
  | kd h => exact .kd (g.kd h)
  | dct h => exact .dct (g.keep _ _ h fun _ z => by cases z)
theorem tyx_D {H : Hp} {p : Addr} {kvs : List (Key × V)} (h : H p = some (.dK kvs)) : TyX K H (.ref p) (.type "dict") := .base (.dK h)
theorem isx_int {H : Hp} {x : V} {Q : VK} (h : Kx K H x) (q : Q (.bl (isInt x || isBl x)) H) : rIsi K [x, .ty "int"] H Q := by
  cases h with
  | kd h => exact isi_int h q
  | dct h => exact w_isi (tyx_D h) (b := false) (by decide +kernel) q
theorem isx_bool {H : Hp} {x : V} {Q : VK} (h : Kx K H x) (q : Q (.bl (isBl x)) H) : rIsi K [x, .ty "bool"] H Q := by
  cases h with
  | kd h => exact isi_bool h q
  | dct h => exact w_isi (tyx_D h) (b := false) (by decide +kernel) q
theorem isx_str {H : Hp} {x : V} {Q : VK} (h : Kx K H x) (q : Q (.bl (isStr x)) H) : rIsi K [x, .ty "str"] H Q := by
  cases h with
  | kd h => exact isi_str h q
  | dct h => exact w_isi (tyx_D h) (b := false) (by decide +kernel) q
def spIsWhole (K : PySem.W.Frag) : Sp := fun vs H Q _ => ∃ x, vs = [x] ∧ Kx K H x ∧ Q (.bl (isInt x)) H
theorem rd_is_whole : ∀ vs H Q (E : XK), spIsWhole K vs H Q E → t_is_whole K (E_ Q) (start ["thing"] vs) H := by
  intro vs H Q E h
  obtain ⟨x, rfl, hx, q⟩ := h
  unfold t_is_whole
  walk_at "go"
  refine isx_int hx ?_
  walk_at "go"
  refine w_bool (fun e => ?_) (fun e => ?_)
  · walk_at "go"
    refine isx_bool hx ?_
    walk_at "go"
    have : isInt x = !isBl x := by
      cases x <;> first | rfl | (simp [U.isInt, U.isBl] at e)
    rw [this] at q
    exact q
  · have : isInt x = false := by
      cases x <;> first | rfl | (simp [U.isInt, U.isBl] at e)
    rw [this] at q
    exact q
/-! ### pairs -/
def lowOf (x y : Int) : Int × Int := (x / (Nat.gcd x.natAbs y.natAbs : Nat), y / (Nat.gcd x.natAbs y.natAbs : Nat))
def spPairOf (K : PySem.W.Frag) (T : List (Addr × Str)) : Sp := fun vs H Q _ => ∃ x y : Int, vs = [.int x, .int y] ∧ Sm x ∧ Sm y ∧ 0 < y ∧ ∀ p H', Gr T H H' → H' p = some (.tup [.int (lowOf x y).1, .int (lowOf x y).2]) → Q (.ref p) H'
theorem gcd_pos {x y : Int} (h : 0 < y) : 0 < Nat.gcd x.natAbs y.natAbs := Nat.gcd_pos_of_pos_right _ (by omega)
theorem div_ok {x y : Int} (h : 0 < y) (hy : Sm y) : CDivW 0 ((Nat.gcd x.natAbs y.natAbs : Nat) : Int) := by
  refine wide_div (b := 432) (by have := gcd_pos (x := x) h; omega) ?_ (by decide) (by decide)
  rw [Int.natAbs_natCast]
  exact Nat.lt_of_le_of_lt (Nat.le_of_dvd (by omega) (Nat.gcd_dvd_right _ _)) hy.bits
theorem rd_pair_of : ∀ vs H Q (E : XK), spPairOf K T vs H Q E → t_pair_of K (E_ Q) (start ["top", "bottom", "part"] vs) H := by
  intro vs H Q E h
  obtain ⟨x, y, rfl, hx, hy, h0, q⟩ := h
  unfold t_pair_of
  walk_at "go"
  refine ⟨x, y, rfl, ?_⟩
  walk_at "go"
  refine w_dec (fun e => by omega) (fun e => ?_)
  walk_at "go"
  refine w_I (div_ok h0 hy) ?_
  walk_at "go"
  refine w_I (div_ok h0 hy) ?_
  walk_at "go"
  intro p H' np g h
  exact q p H' (g T) h
/-! ### texts -/
def wordOf (p q : Int) : Str := if q = 1 then tx p else tx p ++ ("/" : Str) ++ tx q
theorem tx_len {i : Int} (h : Sm i) : (tx i).length ≤ 131 := by
  have h1 := dg_le (n := i.natAbs) (k := 130) (by decide) h
  by_cases e : i < 0
  · rw [tx_neg e, len_tl, tl_append, List.length_append, ← len_tl, ← len_tl]
    have : ("-" : Str).length = 1 := by decide +kernel
    omega
  · have : tx i = dg i.natAbs := by
      obtain ⟨n, rfl⟩ := Int.eq_ofNat_of_zero_le (show 0 ≤ i by omega)
      rfl
    rw [this]
    omega
theorem len_app (a b : Str) : (a ++ b).length = a.length + b.length := by rw [len_tl, tl_append, List.length_append, ← len_tl, ← len_tl]
theorem emp_app (a : Str) : Str.empty ++ a = a := ext_tl (by rw [tl_append]; rfl)
def spTextOf : Sp := fun vs H Q _ => ∃ x y : Int, vs = [.int x, .int y] ∧ Sm x ∧ Sm y ∧ Q (.str (wordOf x y)) H
theorem w_fmtI {te : TE} {σ : L2.St} {H : Hp} {Q : VK} {i : Nat} {x : Int} (e : σ[i]? = some (some (.int x))) (h : Sm x) (q : Q (.str (tx x)) H) : tFmt (tVar i) σ H Q :=
  ⟨_, e, .inr ⟨x, rfl, Nat.lt_trans h.log (by decide), q⟩⟩
theorem rd_text_of : ∀ vs H Q (E : XK), spTextOf vs H Q E → t_text_of K (E_ Q) (start ["top", "bottom"] vs) H := by
  intro vs H Q E h
  obtain ⟨x, y, rfl, hx, hy, q⟩ := h
  unfold t_text_of
  have lx := tx_len hx
  have ly := tx_len hy
  have l1 : ("/" : Str).length = 1 := by decide +kernel
  have ls : 100000 ≤ sizeLine := by decide +kernel
  walk_at "go"
  refine w_dec (fun e => ?_) (fun e => ?_)
  · walk_at "go"
    refine w_fmtI (te := tVar 0) rfl hx ?_
    unfold wordOf at q
    rw [if_pos e] at q
    exact q
  · walk_at "go"
    unfold wordOf at q
    rw [if_neg e] at q
    refine w_joined (w_js1 (w_fmtI (te := tVar 0) rfl hx ⟨_, rfl, ?_, ?_⟩))
    · rw [emp_app]; omega
    · rw [emp_app]
      refine w_js1 (w_c ⟨_, rfl, ?_, ?_⟩)
      · rw [len_app]; omega
      · refine w_js1 (w_fmtI (te := tVar 1) rfl hy ⟨_, rfl, ?_, ?_⟩)
        · rw [len_app, len_app]; omega
        · exact w_js0 q
def spMost : Sp := fun vs H Q _ => ∃ x y : Int, vs = [.int x, .int y] ∧ Sm x ∧ Sm y ∧ Q (.int ((max (nd x) (nd y) : Nat) : Int)) H
theorem rd_most_of_parts : ∀ vs H Q (E : XK), spMost vs H Q E → t_most_of_parts K spDigits (E_ Q) (start ["top", "bottom"] vs) H := by
  intro vs H Q E h
  obtain ⟨x, y, rfl, hx, hy, q⟩ := h
  unfold t_most_of_parts
  walk_at "go"
  refine ⟨x, rfl, hx, ?_⟩
  walk_at "go"
  refine ⟨y, rfl, hy, ?_⟩
  walk_at "go"
  have : ((max (nd x) (nd y) : Nat) : Int) = max (nd x : Int) (nd y : Int) := by omega
  rw [this] at q
  exact q
end K00
end
section
set_option Elab.async false
set_option linter.all false
set_option maxRecDepth 100000
set_option maxHeartbeats 4000000
namespace K00
open PySem PySem.Spec PyProof.Rows L2 LamX U Evl TL L2H HotX LHot LX LV NdefX LW
/-! ### steps, by program -/
local macro_rules | `(tactic| walk_at "kp") => `(tactic| first
  | assumption
  | exact sqA_of (by assumption)
  | exact sqB_of (by assumption)
  | exact sqL_of (by assumption)
  | exact sqT_of (by assumption)
  | exact Or.inl (by assumption)
  | exact Or.inr (by assumption)
  | exact Gr.refl _ _
  | exact GrA.gr (by assumption)
  | (apply Gr.trans ?_ (by first | assumption | exact GrA.gr (by assumption)); walk_at "kp")
  | (apply Gr.xd; (first | assumption | exact GrA.gr (T := []) (by assumption)); walk_at "kp")
  | (apply Gr.sq; (first | assumption | exact GrA.gr (T := []) (by assumption)); walk_at "kp")
  | (apply Gr.sqL; (first | assumption | exact GrA.gr (T := []) (by assumption)); walk_at "kp")
  | (apply Gr.sqT; (first | assumption | exact GrA.gr (T := []) (by assumption)); walk_at "kp")
  | (apply Gr.lst; (first | assumption | exact GrA.gr (T := []) (by assumption)); walk_at "kp")
  | (apply Gr.tup; (first | assumption | exact GrA.gr (T := []) (by assumption)); walk_at "kp"))
local macro_rules | `(tactic| walk_at "s") => `(tactic| first
  | with_reducible first
    | refine w_seq ?_ | refine w_asg ?_ | refine w_gname ?_ | refine w_if ?_ | refine w_ret ?_ | refine w_next ?_ | refine w_drop ?_ | refine w_retN ?_ | refine w_brk ?_ | refine w_cont ?_ | refine w_gsub ?_
    | refine w_op ?_ | refine w_c ?_ | refine w_nil ?_ | refine w_cons ?_ | refine w_cb ?_ | refine w_un ?_
    | refine w_I0 ?_ | refine w_U ?_ | refine w_add ?_ | refine w_test ?_ | refine w_tB ?_ | refine w_tr ?_ | refine w_exn ?_ | refine w_trn ?_ | refine w_and ?_ | refine w_or ?_ | refine w_not ?_ | refine w_andV ?_ | refine w_orV ?_ | refine w_notV ?_ | refine w_ifE ?_
    | refine w_eqI ?_ | refine w_neI ?_ | refine w_eqS ?_ | refine w_neS ?_ | refine w_eqB ?_ | refine w_neB ?_ | refine w_isNo ?_ | refine w_notN ?_
    | refine w_call0 ?_ | refine w_tupK ?_ | refine w_lstK ?_ | refine w_bm ?_ | refine w_nop ?_ | refine w_part ?_ | refine w_exi ?_ | refine w_sl ?_
    | refine w_lcS ?_ | refine w_lcR1 ?_ | refine w_lcR2 ?_ | refine w_lcE ?_ | refine w_frS ?_ | refine w_frR1 ?_ | refine w_frR2 ?_ | refine w_frE ?_ | refine w_frT ?_
    | refine w_tYes ?_ | refine w_lcH ?_ | refine w_callE ?_ | refine w_iteD ?_ | refine w_iteND ?_ | refine w_raise ?_ | refine raK1 ?_ | refine raK2 ?_ | refine w_iteNT ?_ | refine w_iteNF ?_ | refine w_ckw ?_ | refine w_callN ?_ | refine w_m1 ?_ | refine w_yes1 ?_ | refine w_iteT ?_ | refine w_iteF ?_ | refine w_abs ?_ | refine w_max2 ?_ | refine w_max3 ?_ | refine w_min2 ?_ | refine w_intI ?_
  | (with_reducible apply w_var; with_unfolding_all rfl)
  | (with_reducible apply w_lenI; walk_at "kp")
  | (with_reducible apply w_len; walk_at "kp")
  | (with_reducible apply w_sum; walk_at "kp")
  | (with_reducible refine lstK ?_ ?_; exact Nat.le_of_ble_eq_true rfl)
  | (with_reducible refine tupK ?_ ?_; exact Nat.le_of_ble_eq_true rfl)
  | (with_reducible apply w_list; walk_at "kp")
  | (with_reducible apply w_tuple; walk_at "kp")
  | (with_reducible apply w_slI; walk_at "kp")
  | (with_reducible apply w_inI; walk_at "kp")
  | (with_reducible apply w_notInI; walk_at "kp"))
local macro_rules | `(tactic| walk_at "go") => `(tactic| repeat' (walk_at "s"))
variable {K : PySem.W.Frag} {T : List (Addr × Str)}
theorem szl : 100000 ≤ sizeLine := by decide +kernel
theorem w_slZ {z : Str} {lo hi : Option Int} {H : Hp} {Q : VK} (h : z.length ≤ 100000) (q : Q (.str (cutS z lo hi)) H) : rSl K (.str z) lo hi H Q := ⟨Nat.le_trans h szl, q⟩
theorem w_inSl {z : Str} {H : Hp} {Q : VK} (q : Q (.bl (decide (47 ∈ tl z))) H) : uIn K false (.str "/") (.str z) H Q := by
  have e : (.str "/" : V) = .str ⟨#[47]⟩ := by
    have : ("/" : Str) = ⟨#[47]⟩ := ext_tl (by decide +kernel)
    rw [this]
  rw [e]
  exact w_inC q
theorem len_part (b : Str) : (Txt.partition b "/").1.length ≤ b.length ∧ (Txt.partition b "/").2.2.length ≤ b.length := by
  by_cases h : 47 ∈ tl b
  · obtain ⟨k, _, _, e⟩ := find_split h
    rw [e]
    exact ⟨cutS_length _ _ _, cutS_length _ _ _⟩
  · rw [part_free h]
    exact ⟨Nat.le_refl _, Nat.zero_le _⟩
theorem len_body (z : Str) : (bodyOf z).length ≤ z.length := by
  unfold bodyOf
  split
  · exact cutS_length _ _ _
  · exact Nat.le_refl _
theorem dig_int {z : Str} (h : isDig z = true) (hl : z.length ≤ 640) : PySem.intText? z = some (valOf z) := by
  have e := dig_back h
  have l : (dg (NumText.digitsVal (tl z))).length ≤ 4300 := by rw [← e]; omega
  have := dg_int l
  rw [← e] at this
  exact this
def spTextParts (K : PySem.W.Frag) (T : List (Addr × Str)) : Sp := fun vs H Q _ => ∃ z : Str, vs = [.str z] ∧ z.length ≤ 640 ∧ (partsOf z = none → ∀ H', Gr T H H' → Q .non H') ∧
  ∀ a b, partsOf z = some (a, b) → ∀ p H', Gr T H H' → SqT K H' p [.int a, .int b] → Q (.ref p) H'
theorem rd_text_parts : ∀ vs H Q (E : XK), spTextParts K T vs H Q E → t_text_parts K spIsDigits spWholeOf (E_ Q) (start ["text", "minus", "bottom", "top", "head", "slash", "tail"] vs) H := by
  intro vs H Q E h
  obtain ⟨z, rfl, hz, qn, qs⟩ := h
  unfold t_text_parts
  unfold partsOf at qn qs
  walk_at "go"
  refine w_slZ (by omega) ?_
  walk_at "go"
  have hmin : decide (cutS z none (some 1) = "-") = minusOf z := rfl
  rw [hmin]
  -- the part behind the cut
  have key : ∀ b : Str, b = bodyOf z → qPart (.str b) [.str "/"] H (fun v H1 => gTup K 3 (gCons (gName 4) (gCons (gName 5) (gCons (gName 6) gNil))) v [some (.str z), some (.bl (minusOf z)), none, none, none, none, none] H1 (fun σ H2 => (tSeq (tIfS (tNot (L2.tB (tCall spIsDigits [] E0 (tCons (tVar 4) tNil)))) (tRet (tC .non)) tNext)
    (tSeq (tAsg (tC (.int 1)) (gName 2))
    (tSeq (tIfS (tTest (tOp (uNe K) (tVar 5) (tC (.str "")))) (tSeq (tIfS (tOr (tNot (L2.tB (tCall spIsDigits [] E0 (tCons (tVar 6) tNil)))) (tTest (tOp (uEq K) (tVar 6) (tC (.str "0"))))) (tRet (tC .non)) tNext)
    (tAsg (tCall spWholeOf [] E0 (tCons (tVar 6) tNil)) (gName 2))) tNext)
    (tSeq (tAsg (tCall spWholeOf [] E0 (tCons (tVar 4) tNil)) (gName 3))
    (tRet (tTup (tCons (tIf (tTr K (tVar 1)) (tUn qNeg (tVar 3)) (tVar 3)) (tCons (tVar 2) tNil)))))))) (E_ Q) σ H2)) := by
    rintro b rfl
    have lb := len_body z
    obtain ⟨l1, l2⟩ := len_part (bodyOf z)
    refine ⟨bodyOf z, "/", rfl, rfl, by decide +kernel, Nat.le_trans (by omega : (bodyOf z).length ≤ 100000) szl, fun p hp => ?_⟩
    refine w_gt3 (sqT_of upd_same) ?_
    have g0 : GrA H (upd H p (.tup [.str (Txt.partition (bodyOf z) "/").1, .str (Txt.partition (bodyOf z) "/").2.1, .str (Txt.partition (bodyOf z) "/").2.2])) := .new hp
    generalize upd H p _ = H1 at g0 ⊢
    generalize Txt.partition (bodyOf z) "/" = pt at *
    obtain ⟨hd, sl, tail⟩ := pt
    dsimp only at *
    walk_at "go"
    refine ⟨hd, rfl, by omega, ?_⟩
    walk_at "go"
    cases e1 : isDig hd with
    | false =>
      walk_at "go"
      rw [e1, if_neg (by decide)] at qn
      exact qn rfl _ (g0 T)
    | true =>
      rw [if_pos e1] at qn qs
      have fin : ∀ bt : Int, (∀ p H', Gr T H H' → SqT K H' p [.int (sgOf z hd), .int bt] → Q (.ref p) H') → (tSeq (tAsg (tCall spWholeOf [] E0 (tCons (tVar 4) tNil)) (gName 3))
          (tRet (tTup (tCons (tIf (tTr K (tVar 1)) (tUn qNeg (tVar 3)) (tVar 3)) (tCons (tVar 2) tNil))))) (E_ Q) [some (.str z), some (.bl (minusOf z)), some (.int bt), none, some (.str hd), some (.str sl), some (.str tail)] H1 := by
        intro bt hq
        walk_at "go"
        refine ⟨hd, _, rfl, by omega, dig_int e1 (by omega), ?_⟩
        walk_at "go"
        unfold sgOf at hq
        refine w_bool (fun em => ?_) (fun em => ?_)
        · rw [em] at hq
          walk_at "go"
          intro q H2 nq g2 h2
          exact hq q H2 ((g0 T).trans (g2 T)) (sqT_of h2)
        · rw [em] at hq
          walk_at "go"
          intro q H2 nq g2 h2
          exact hq q H2 ((g0 T).trans (g2 T)) (sqT_of h2)
      walk_at "go"
      refine w_ndec (fun e2 => ?_) (fun e2 => ?_)
      · rw [if_neg e2] at qn qs
        walk_at "go"
        refine ⟨tail, rfl, by omega, ?_⟩
        walk_at "go"
        cases e3 : isDig tail with
        | false =>
          walk_at "go"
          rw [if_neg (fun z => by rw [e3] at z; exact absurd z.1 (by decide))] at qn
          exact qn rfl _ (g0 T)
        | true =>
          walk_at "go"
          refine w_dec (fun e4 => ?_) (fun e4 => ?_)
          · walk_at "go"
            rw [if_neg (fun z => z.2 e4)] at qn
            exact qn rfl _ (g0 T)
          · walk_at "go"
            refine ⟨tail, _, rfl, by omega, dig_int e3 (by omega), ?_⟩
            rw [if_pos ⟨e3, e4⟩] at qs
            exact fin _ (qs _ _ rfl)
      · rw [if_pos e2] at qs
        walk_at "s"
        exact fin _ (qs _ _ rfl)
  cases em : minusOf z with
  | true =>
    rw [em] at key
    walk_at "go"
    refine w_slZ (by omega) ?_
    exact ⟨⟨_, rfl⟩, key _ (by unfold bodyOf; rw [if_pos em])⟩
  | false =>
    rw [em] at key
    walk_at "go"
    exact key _ (by unfold bodyOf; rw [if_neg (by rw [em]; decide)])

/-! ### numbers as they are passed -/
/-- a value that is no number -/
inductive BadV (K : PySem.W.Frag) (H : Hp) : V → Prop
  | non : BadV K H .non
  | bl (b : Bool) : BadV K H (.bl b)
  | lst {p : Addr} {xs : List V} (h : SqL K H p xs) : BadV K H (.ref p)
  | dct {p : Addr} {kvs : List (Key × V)} (h : H p = some (.dK kvs)) : BadV K H (.ref p)
  | len {p : Addr} {xs : List V} (h : SqT K H p xs) (n : xs.length ≠ 2) (l : xs.length ≤ 100) : BadV K H (.ref p)
  | two {p : Addr} {x y : V} (h : SqT K H p [x, y]) (hx : Kx K H x) (hy : Kx K H y) (b : U.isInt x = true → ∀ i, y = .int i → i ≤ 0) : BadV K H (.ref p)
/-- what a value names as a number -/
inductive NumArg (K : PySem.W.Frag) (H : Hp) : V → Option (Int × Int) → Prop
  | int (i : Int) (h : Sm i) : NumArg K H (.int i) (some (i, 1))
  | tup {p : Addr} {a b : Int} (h : SqT K H p [.int a, .int b]) (h0 : 0 < b) (ha : Sm a) (hb : Sm b) : NumArg K H (.ref p) (some (a, b))
  | txt {z : Str} (h : z.length ≤ 640) (hs : ∀ a b, partsOf z = some (a, b) → Sm a ∧ Sm b ∧ 0 < b) : NumArg K H (.str z) (partsOf z)
  | bad {v : V} (h : BadV K H v) : NumArg K H v none
theorem sm1 : Sm 1 := by unfold Sm; decide +kernel
theorem NumArg.sm {H : Hp} {v : V} {a b : Int} (h : NumArg K H v (some (a, b))) : Sm a ∧ Sm b ∧ 0 < b := by
  generalize ho : some (a, b) = o at h
  cases h with
  | int i h => cases ho; exact ⟨h, sm1, by decide⟩
  | tup h h0 ha hb => cases ho; exact ⟨ha, hb, h0⟩
  | txt h hs => exact hs a b ho.symm
  | bad h => cases ho
theorem isx_T {H : Hp} {p : Addr} {xs : List V} {n : String} {b : Bool} {Q : VK} (h : SqT K H p xs) (e : kitB "tuple" n = some b) (q : Q (.bl b) H) : rIsi K [.ref p, .ty n] H Q := isi_T h e q
def spNumberParts (K : PySem.W.Frag) (T : List (Addr × Str)) : Sp := fun vs H Q _ => ∃ v o, vs = [v] ∧ NumArg K H v o ∧ (o = none → ∀ H', Gr T H H' → Q .non H') ∧
  ∀ a b, o = some (a, b) → ∀ p H', Gr T H H' → SqT K H' p [.int a, .int b] → Q (.ref p) H'
theorem bad_kx {H : Hp} {v : V} (h : BadV K H v) : Kx K H v ∧ U.isInt v = false ∧ U.isStr v = false := by
  cases h with
  | non => exact ⟨.kd .non, rfl, rfl⟩
  | bl b => exact ⟨.kd (.bl b), rfl, rfl⟩
  | lst h => exact ⟨.kd (.lst h), rfl, rfl⟩
  | dct h => exact ⟨.dct h, rfl, rfl⟩
  | len h _ _ => exact ⟨.kd (.tup h), rfl, rfl⟩
  | two h _ _ _ => exact ⟨.kd (.tup h), rfl, rfl⟩
theorem rd_number_parts : ∀ vs H Q (E : XK), spNumberParts K T vs H Q E → t_number_parts K (spIsWhole K) (spTextParts K T) (E_ Q) (start ["thing", "top", "bottom"] vs) H := by
  intro vs H Q E h
  obtain ⟨v, o, rfl, hv, qn, qs⟩ := h
  unfold t_number_parts
  walk_at "go"
  cases hv with
  | int i hi =>
    refine ⟨_, rfl, .kd (.int i), ?_⟩
    dsimp only [U.isInt]
    walk_at "go"
    intro p H1 np g h
    exact qs _ _ rfl p H1 (g T) (sqT_of h)
  | txt hz hs =>
    rename_i z
    refine ⟨_, rfl, .kd (.str z), ?_⟩
    dsimp only [U.isInt]
    walk_at "go"
    refine isi_str (.str z) ?_
    dsimp only [U.isStr]
    walk_at "go"
    exact ⟨z, rfl, hz, qn, qs⟩
  | tup h h0 ha hb =>
    rename_i p a b
    refine ⟨_, rfl, .kd (.tup h), ?_⟩
    dsimp only [U.isInt]
    walk_at "go"
    refine isi_str (.tup h) ?_
    dsimp only [U.isStr]
    walk_at "go"
    refine isi_T h (b := true) (by decide +kernel) ?_
    walk_at "go"
    refine w_len (.inr h) ?_
    walk_at "go"
    refine w_yes rfl ?_
    walk_at "go"
    refine w_gt2 h ?_
    walk_at "go"
    refine ⟨_, rfl, .kd (.int a), ?_⟩
    dsimp only [U.isInt]
    walk_at "go"
    refine ⟨_, rfl, .kd (.int b), ?_⟩
    dsimp only [U.isInt]
    walk_at "go"
    refine w_dec (fun _ => ?_) (fun e => by omega)
    walk_at "go"
    intro q H1 nq g h
    exact qs _ _ rfl q H1 (g T) (sqT_of h)
  | bad hb =>
    obtain ⟨k1, k2, k3⟩ := bad_kx hb
    have q0 := qn rfl H (Gr.refl _ _)
    refine ⟨_, rfl, k1, ?_⟩
    rw [k2]
    walk_at "go"
    refine isx_str k1 ?_
    rw [k3]
    walk_at "go"
    cases hb with
    | non =>
      refine w_isi tyx_non (b := false) (by decide +kernel) ?_
      walk_at "go"
      exact q0
    | bl b =>
      refine w_isi tyx_bl (b := false) (by decide +kernel) ?_
      walk_at "go"
      exact q0
    | lst h =>
      refine isi_L h (b := false) (by decide +kernel) ?_
      walk_at "go"
      exact q0
    | dct h =>
      refine w_isi (tyx_D h) (b := false) (by decide +kernel) ?_
      walk_at "go"
      exact q0
    | len h n l =>
      refine isi_T h (b := true) (by decide +kernel) ?_
      walk_at "go"
      refine w_len (.inr h) ?_
      walk_at "go"
      refine w_dec (fun e => by omega) (fun _ => ?_)
      walk_at "go"
      exact q0
    | two h hx hy b =>
      rename_i p x y
      refine isi_T h (b := true) (by decide +kernel) ?_
      walk_at "go"
      refine w_len (.inr h) ?_
      walk_at "go"
      refine w_yes rfl ?_
      walk_at "go"
      refine w_gt2 h ?_
      walk_at "go"
      refine ⟨_, rfl, hx, ?_⟩
      walk_at "go"
      cases e1 : U.isInt x with
      | false =>
        walk_at "go"
        exact q0
      | true =>
        walk_at "go"
        refine ⟨_, rfl, hy, ?_⟩
        walk_at "go"
        cases e2 : U.isInt y with
        | false =>
          walk_at "go"
          exact q0
        | true =>
          obtain ⟨i, rfl⟩ : ∃ i, y = .int i := by
            cases y <;> first | exact ⟨_, rfl⟩ | (simp [U.isInt] at e2)
          have := b e1 i rfl
          walk_at "go"
          refine w_dec (fun e => by omega) (fun _ => ?_)
          walk_at "go"
          exact q0
/-! ### read_number, number_text -/
def mostOf (a b : Int) : Nat := max (nd a) (nd b)
def spRead (K : PySem.W.Frag) (T : List (Addr × Str)) : Sp := fun vs H Q E => ∃ v o, vs = [v] ∧ NumArg K H v o ∧
  (o = none → ∀ d H', Gr T H H' → H' d = some (.xd [("at", .int 0)]) → E (.ref (He.ga K "BadNumber")) (some d) H') ∧
  ∀ a b, o = some (a, b) → (60 < mostOf a b → ∀ d H', Gr T H H' → H' d = some (.xd [("count", .int (mostOf a b : Nat)), ("what", .str "digits")]) → E (.ref (He.ga K "TooMany")) (some d) H') ∧
    (mostOf a b ≤ 60 → ∀ p H', Gr T H H' → H' p = some (.tup [.int (lowOf a b).1, .int (lowOf a b).2]) → Q (.ref p) H')
theorem rd_read_number : ∀ vs H Q (E : XK), spRead K T vs H Q E → t_read_number K (spAskText K) (spNumberParts K T) (spAskDigits K T) spMost (spPairOf K T) E (E_ Q) (start ["thing", "parts", "top", "bottom"] vs) H := by
  intro vs H Q E h
  obtain ⟨v, o, rfl, hv, qn, qs⟩ := h
  have rest : (tSeq (tAsg (tCall (spNumberParts K T) [] E (tCons (tVar 0) tNil)) (gName 1))
    (tSeq (tIfS (tTest (tOp rIsN (tVar 1) (tC .non))) (tRaise (He.ga K "BadNumber") ["at"] (fun cls d _ H => E cls d H) (tCons (tC (.int 0)) tNil)) tNext)
    (tSeq (tAsg (tVar 1) (gTup K 2 (gCons (gName 2) (gCons (gName 3) gNil))))
    (tSeq (tDrop (tCall (spAskDigits K T) [] E (tCons (tCall spMost [] E (tCons (tVar 2) (tCons (tVar 3) tNil))) tNil)))
    (tRet (tCall (spPairOf K T) [] E (tCons (tVar 2) (tCons (tVar 3) tNil)))))))) (E_ Q) [some v, none, none, none] H := by
    walk_at "go"
    refine ⟨v, o, rfl, hv, fun e H1 g1 => ?_, fun a b e p H1 g1 h1 => ?_⟩
    · walk_at "go"
      intro d H2 g2 h2
      exact qn e d H2 (g1.trans (g2 T)) h2
    · subst e
      obtain ⟨ha, hb, h0⟩ := hv.sm
      obtain ⟨q1, q2⟩ := qs a b rfl
      walk_at "go"
      refine w_no (by simp) ?_
      walk_at "go"
      refine w_gt2 h1 ?_
      walk_at "go"
      refine ⟨a, b, rfl, ha, hb, ?_⟩
      walk_at "go"
      refine ⟨_, rfl, fun e => ?_, fun e d H2 g2 h2 => ?_⟩
      · walk_at "go"
        exact ⟨a, b, rfl, ha, hb, h0, fun p H2 g2 h2 => q2 (by unfold mostOf; omega) p H2 (g1.trans g2) h2⟩
      · exact q1 (by unfold mostOf; omega) d H2 (g1.trans g2) h2
  unfold t_read_number
  walk_at "s"
  walk_at "s"
  cases hv with
  | txt hz hs =>
    rename_i z
    walk_at "go"
    refine isi_str (.str z) ?_
    dsimp only [U.isStr]
    walk_at "go"
    refine w_lenS (Nat.le_trans (by omega : z.length ≤ 100000) szl) ?_
    walk_at "go"
    refine ⟨_, rfl, by omega, ?_⟩
    exact rest
  | int i hi =>
    walk_at "go"
    refine isi_str (.int i) ?_
    dsimp only [U.isStr]
    walk_at "s"
    walk_at "s"
    walk_at "s"
    exact rest
  | tup h h0 ha hb =>
    walk_at "go"
    refine isi_str (.tup h) ?_
    dsimp only [U.isStr]
    walk_at "s"
    walk_at "s"
    walk_at "s"
    exact rest
  | bad hb =>
    obtain ⟨k1, k2, k3⟩ := bad_kx hb
    walk_at "go"
    refine isx_str k1 ?_
    rw [k3]
    walk_at "s"
    walk_at "s"
    walk_at "s"
    exact rest
end K00
end
section
set_option Elab.async false
set_option linter.all false
set_option maxRecDepth 100000
set_option maxHeartbeats 4000000
namespace K00
open PySem PySem.Spec PyProof.Rows L2 LamX U Evl TL L2H HotX LHot LX LV NdefX LW
/-! ### steps, by program -/
local macro_rules | `(tactic| walk_at "kp") => `(tactic| first
  | assumption
  | exact sqA_of (by assumption)
  | exact sqB_of (by assumption)
  | exact sqL_of (by assumption)
  | exact sqT_of (by assumption)
  | exact Or.inl (by assumption)
  | exact Or.inr (by assumption)
  | exact Gr.refl _ _
  | exact GrA.gr (by assumption)
  | (apply Gr.trans ?_ (by first | assumption | exact GrA.gr (by assumption)); walk_at "kp")
  | (apply Gr.xd; (first | assumption | exact GrA.gr (T := []) (by assumption)); walk_at "kp")
  | (apply Gr.sq; (first | assumption | exact GrA.gr (T := []) (by assumption)); walk_at "kp")
  | (apply Gr.sqL; (first | assumption | exact GrA.gr (T := []) (by assumption)); walk_at "kp")
  | (apply Gr.sqT; (first | assumption | exact GrA.gr (T := []) (by assumption)); walk_at "kp")
  | (apply Gr.lst; (first | assumption | exact GrA.gr (T := []) (by assumption)); walk_at "kp")
  | (apply Gr.tup; (first | assumption | exact GrA.gr (T := []) (by assumption)); walk_at "kp"))
local macro_rules | `(tactic| walk_at "s") => `(tactic| first
  | with_reducible first
    | refine w_seq ?_ | refine w_asg ?_ | refine w_gname ?_ | refine w_if ?_ | refine w_ret ?_ | refine w_next ?_ | refine w_drop ?_ | refine w_retN ?_ | refine w_brk ?_ | refine w_cont ?_ | refine w_gsub ?_
    | refine w_op ?_ | refine w_c ?_ | refine w_nil ?_ | refine w_cons ?_ | refine w_cb ?_ | refine w_un ?_
    | refine w_I0 ?_ | refine w_U ?_ | refine w_add ?_ | refine w_test ?_ | refine w_tB ?_ | refine w_tr ?_ | refine w_exn ?_ | refine w_trn ?_ | refine w_and ?_ | refine w_or ?_ | refine w_not ?_ | refine w_andV ?_ | refine w_orV ?_ | refine w_notV ?_ | refine w_ifE ?_
    | refine w_eqI ?_ | refine w_neI ?_ | refine w_eqS ?_ | refine w_neS ?_ | refine w_eqB ?_ | refine w_neB ?_ | refine w_isNo ?_ | refine w_notN ?_
    | refine w_call0 ?_ | refine w_tupK ?_ | refine w_lstK ?_ | refine w_bm ?_ | refine w_nop ?_ | refine w_part ?_ | refine w_exi ?_ | refine w_sl ?_
    | refine w_lcS ?_ | refine w_lcR1 ?_ | refine w_lcR2 ?_ | refine w_lcE ?_ | refine w_frS ?_ | refine w_frR1 ?_ | refine w_frR2 ?_ | refine w_frE ?_ | refine w_frT ?_
    | refine w_tYes ?_ | refine w_lcH ?_ | refine w_callE ?_ | refine w_iteD ?_ | refine w_iteND ?_ | refine w_raise ?_ | refine raK1 ?_ | refine raK2 ?_ | refine w_iteNT ?_ | refine w_iteNF ?_ | refine w_ckw ?_ | refine w_callN ?_ | refine w_m1 ?_ | refine w_yes1 ?_ | refine w_iteT ?_ | refine w_iteF ?_ | refine w_abs ?_ | refine w_max2 ?_ | refine w_max3 ?_ | refine w_min2 ?_ | refine w_intI ?_
  | (with_reducible apply w_var; with_unfolding_all rfl)
  | (with_reducible apply w_lenI; walk_at "kp")
  | (with_reducible apply w_len; walk_at "kp")
  | (with_reducible apply w_sum; walk_at "kp")
  | (with_reducible refine lstK ?_ ?_; exact Nat.le_of_ble_eq_true rfl)
  | (with_reducible refine tupK ?_ ?_; exact Nat.le_of_ble_eq_true rfl)
  | (with_reducible apply w_list; walk_at "kp")
  | (with_reducible apply w_tuple; walk_at "kp")
  | (with_reducible apply w_slI; walk_at "kp")
  | (with_reducible apply w_inI; walk_at "kp")
  | (with_reducible apply w_notInI; walk_at "kp"))
local macro_rules | `(tactic| walk_at "go") => `(tactic| repeat' (walk_at "s"))
variable {K : PySem.W.Frag} {T : List (Addr × Str)}
theorem lowOf_sm {x y : Int} (hx : Sm x) (hy : Sm y) (h0 : 0 < y) : Sm (lowOf x y).1 ∧ Sm (lowOf x y).2 ∧ 0 < (lowOf x y).2 := by
  unfold lowOf Sm at *
  have hg := gcd_pos (x := x) h0
  have d1 : (Nat.gcd x.natAbs y.natAbs : Int) ∣ x := Int.ofNat_dvd_left.mpr (Nat.gcd_dvd_left _ _)
  have d2 : (Nat.gcd x.natAbs y.natAbs : Int) ∣ y := Int.ofNat_dvd_left.mpr (Nat.gcd_dvd_right _ _)
  refine ⟨?_, ?_, ?_⟩
  · show (x / (Nat.gcd x.natAbs y.natAbs : Nat)).natAbs < _
    refine Nat.lt_of_le_of_lt ?_ hx
    exact Int.natAbs_ediv_le_natAbs _ _
  · show (y / (Nat.gcd x.natAbs y.natAbs : Nat)).natAbs < _
    exact Nat.lt_of_le_of_lt (Int.natAbs_ediv_le_natAbs _ _) hy
  · show 0 < y / (Nat.gcd x.natAbs y.natAbs : Nat)
    exact Int.ediv_pos_of_pos_of_dvd h0 (by omega) d2
def spNumText (K : PySem.W.Frag) (T : List (Addr × Str)) : Sp := fun vs H Q E => ∃ v o, vs = [v] ∧ NumArg K H v o ∧
  (o = none → ∀ d H', Gr T H H' → H' d = some (.xd [("at", .int 0)]) → E (.ref (He.ga K "BadNumber")) (some d) H') ∧
  ∀ a b, o = some (a, b) → (60 < mostOf a b → ∀ d H', Gr T H H' → H' d = some (.xd [("count", .int (mostOf a b : Nat)), ("what", .str "digits")]) → E (.ref (He.ga K "TooMany")) (some d) H') ∧
    (mostOf a b ≤ 60 → ∀ H', Gr T H H' → Q (.str (wordOf (lowOf a b).1 (lowOf a b).2)) H')
theorem rd_number_text : ∀ vs H Q (E : XK), spNumText K T vs H Q E → t_number_text K (spRead K T) spTextOf E (E_ Q) (start ["thing", "top", "bottom"] vs) H := by
  intro vs H Q E h
  obtain ⟨v, o, rfl, hv, qn, qs⟩ := h
  unfold t_number_text
  walk_at "go"
  refine ⟨v, o, rfl, hv, qn, fun a b e => ⟨fun h60 d H' g h => (qs a b e).1 h60 d H' g h, fun h60 p H1 g1 h1 => ?_⟩⟩
  subst e
  obtain ⟨ha, hb, h0⟩ := hv.sm
  obtain ⟨l1, l2, _⟩ := lowOf_sm ha hb h0
  refine w_gt2 (sqT_of h1) ?_
  walk_at "go"
  exact ⟨_, _, rfl, l1, l2, (qs a b rfl).2 h60 H1 g1⟩
/-! ### the law's own arithmetic -/
def spGcd : Sp := fun vs H Q _ => ∃ x y : Int, vs = [.int x, .int y] ∧ Q (.int ((Nat.gcd x.natAbs y.natAbs : Nat) : Int)) H
theorem w_int1 {i : Int} {H : Hp} {Q : VK} (q : Q (.int i) H) : uInt [.int i] H Q := q
theorem rd_law_gcd : ∀ vs H Q (E : XK), spGcd vs H Q E → t__law_gcd K (E_ Q) (start ["x", "y"] vs) H := by
  intro vs H Q E h
  obtain ⟨x, y, rfl, q⟩ := h
  unfold t__law_gcd
  walk_at "go"
  generalize x.natAbs = a at *
  generalize y.natAbs = b at *
  refine ⟨fun m σ H' => H' = H ∧ ∃ c : Nat, σ = [some (.int (c : Int)), some (.int (m : Int))] ∧ Nat.gcd c m = Nat.gcd a b, ⟨b, rfl, a, rfl, rfl⟩, fun m σ H' p => ?_⟩
  obtain ⟨rfl, c, rfl, hg⟩ := p
  walk_at "go"
  refine w_ndec (fun e => ?_) (fun e => ?_)
  · refine ⟨fun σ' H2 => ∃ m', m' < m ∧ (H2 = H' ∧ ∃ c : Nat, σ' = [some (.int (c : Int)), some (.int (m' : Int))] ∧ Nat.gcd c m' = Nat.gcd a b), fun _ _ z => z, ?_⟩
    have hm : 0 < m := by omega
    walk_at "go"
    show tPar 0 1 _ _ _ _
    refine w_cons (w_var rfl (w_cons (w_op (w_cb (w_cons (w_var rfl (w_nil (w_int1 (w_var rfl ?_)))))))))
    refine w_I (show (0 : Int) < (m : Int) by omega) (w_nil ?_)
    refine ⟨_, _, rfl, c % m, Nat.mod_lt c hm, rfl, m, rfl, ?_⟩
    rw [← hg, Nat.gcd_comm c m, Nat.gcd_rec m c, Nat.gcd_comm]
  · walk_at "go"
    have hm : m = 0 := by omega
    subst hm
    rw [Nat.gcd_zero_right] at hg
    rw [hg]
    exact q
theorem rd_law_low : ∀ vs H Q (E : XK), spPairOf K T vs H Q E → t__law_low K spGcd (E_ Q) (start ["x", "y", "d"] vs) H := by
  intro vs H Q E h
  obtain ⟨x, y, rfl, hx, hy, h0, q⟩ := h
  unfold t__law_low
  walk_at "go"
  refine ⟨x, y, rfl, ?_⟩
  walk_at "go"
  refine w_dec (fun e => by omega) (fun e => ?_)
  walk_at "go"
  refine w_I (div_ok h0 hy) ?_
  walk_at "go"
  refine w_I (div_ok h0 hy) ?_
  walk_at "go"
  intro p H' np g h
  exact q p H' (g T) h
def spWord (K : PySem.W.Frag) : Sp := fun vs H Q _ => ∃ (p : Addr) (x y : Int), vs = [.ref p] ∧ SqT K H p [.int x, .int y] ∧ Sm x ∧ Sm y ∧ Q (.str (wordOf x y)) H
theorem w_strS {i : Int} {H : Hp} {Q : VK} (h : Sm i) (q : Q (.str (tx i)) H) : uStr [.int i] H Q := w_strI (Nat.lt_trans h.log (by decide)) q
theorem rd_law_word : ∀ vs H Q (E : XK), spWord K vs H Q E → t__law_word K (E_ Q) (start ["u"] vs) H := by
  intro vs H Q E h
  obtain ⟨p, x, y, rfl, hp, hx, hy, q⟩ := h
  unfold t__law_word
  have lx := tx_len hx
  have ly := tx_len hy
  have l1 : ("/" : Str).length = 1 := by decide +kernel
  have ls := szl
  unfold wordOf at q
  walk_at "go"
  refine w_ix (.inr hp) (by decide) rfl ?_
  walk_at "go"
  refine w_dec (fun e => ?_) (fun e => ?_)
  · rw [if_pos e] at q
    walk_at "go"
    refine w_ix (.inr hp) (by decide) rfl ?_
    walk_at "go"
    exact w_strS hx q
  · rw [if_neg e] at q
    walk_at "go"
    refine w_ix (.inr hp) (by decide) rfl ?_
    walk_at "go"
    refine w_strS hx ?_
    walk_at "go"
    refine w_adds (by omega) ?_
    walk_at "go"
    refine w_ix (.inr hp) (by decide) rfl ?_
    walk_at "go"
    refine w_strS hy ?_
    walk_at "go"
    exact w_adds (by rw [len_app]; omega) q
/-! ### over a text -/
section
variable {H H1 : Hp} {σ : L2.St} {tl' : TE} {g : TG} {tt : TT} {te : TE} {vs : List Nat} {Q : VK} {j : Nat}
def LcT (g : TG) (tt : TT) (te : TE) (vs : List Nat) (σ : L2.St) (Q : VK) (x : V) (H1 : Hp) : Prop := ∃ z, x = .str z ∧ Lc (Its z) g tt te vs σ Q H1
theorem w_lcT (h : tl' σ H fun x H1 => LcT g tt te vs σ Q x H1) : tLc (iStr tl') g tt te vs σ H Q := h
theorem yl_txt {z : Str} : Yl T (Its z) H1 z.cps.size fun i x _ => ∃ c, (tl z)[i]? = some c ∧ x = .str ⟨#[c]⟩ := fun H' g => by
  refine ⟨fun i hi => hi, fun i hi => hi, fun i x H'' hi y => ?_⟩
  obtain ⟨e, c, e1, e2⟩ := y
  rw [e]
  exact ⟨Gr.refl _ _, c, by rw [show (tl z)[i]? = z.cps[i]? from Array.getElem?_toList ..]; exact e1, e2⟩
theorem lc_T {z : Str} (f : Nat → Bool) (v : Nat → V) (hz : z.length ≤ 100000) (hw : ∀ x, wipe ((wipe σ vs).set j (some x)) vs = wipe σ vs)
    (hst : ∀ c ∈ tl z, ∀ H2, Gr T H1 H2 → Turn1 T tt te ((wipe σ vs).set j (some (.str ⟨#[c]⟩))) H2 (f c) (v c))
    (fin : ∀ D H3, Gr T H1 H3 → H1 D = none → H3 D = some (.lst (((tl z).filter f).map v)) → Q (.ref D) H3) : LcT (gName j) tt te vs σ Q (.str z) H1 := by
  refine ⟨z, rfl, lcG yl_txt hz (fun i => ((tl z)[i]?).elim false f) (fun i => ((tl z)[i]?).elim .non v) (fun i x H2 R hi gr e k => ?_) (fun D H3 g3 hD h3 => fin D H3 g3 hD ?_)⟩
  · obtain ⟨c, e1, rfl⟩ := e
    refine k _ (hw _) ?_
    have q := hst c (List.mem_of_getElem? e1) H2 gr
    rw [e1]
    exact q
  · rw [h3]
    have : z.cps.size = (tl z).length := by simp [tl]
    rw [this, given_opt]
end
theorem dp_strs {H : Hp} : ∀ cs : List Str, DpAll K H (cs.map V.str) (cs.map PyData.str)
  | [] => .nil
  | c :: r => .cons (.str c) (dp_strs r)
def Ok (z : Str) : Prop := ∀ c ∈ tl z, c < 1114112
theorem Ok.str {z : Str} (h : Ok z) : PyData.strOk z = true := by
  unfold PyData.strOk
  rw [Array.all_eq_true_iff_forall_mem]
  intro c hc
  exact decide_eq_true (h c (by simpa [tl] using hc))
theorem lay_strs : ∀ ns : List Str, (∀ n ∈ ns, Ok n) → PyData.canLayAll0 (ns.map PyData.str) = true
  | [], _ => rfl
  | n :: r, h => by
    show (PyData.strOk n && PyData.canLayAll0 (r.map PyData.str)) = true
    rw [(h n (List.mem_cons_self ..)).str, lay_strs r fun x hx => h x (List.mem_cons_of_mem _ hx)] <;> rfl
theorem depth_strs : ∀ ns : List Str, PyData.depthAll (ns.map PyData.str) ≤ 1
  | [] => by decide
  | n :: r => by
    have h := depth_strs r
    have e : PyData.depthAll ((n :: r).map PyData.str) = max (PyData.depth (.str n)) (PyData.depthAll (r.map PyData.str)) := by first | rfl | (simp [PyData.depthAll]; done)
    have e2 : PyData.depth (.str n) ≤ 1 := by first | exact Nat.le_refl _ | exact Nat.zero_le _ | (simp [PyData.depth]; done)
    omega
theorem shaped_S (ns : List Str) (hn : ∀ n ∈ ns, Ok n) : SeqAt.shaped (.list (ns.map PyData.str)) = true := by
  unfold SeqAt.shaped
  have h1 : (PyData.list (ns.map PyData.str)).canLay0 = true := lay_strs ns hn
  have h2 : (PyData.list (ns.map PyData.str)).depth ≤ 64 := by
    have h := depth_strs ns
    have e : (PyData.list (ns.map PyData.str)).depth = PyData.depthAll (ns.map PyData.str) + 1 := by first | rfl | exact Nat.add_comm _ _
    omega
  rw [h1, decide_eq_true h2] <;> rfl
theorem rd_law_digits : ∀ vs H Q (E : XK), (∃ z : Str, vs = [.str z] ∧ z.length ≤ 640 ∧ Ok z ∧ ∀ H', Gr T H H' → Q (.bl (isDig z)) H') → t__law_digits K (E_ Q) (start ["word", "sign"] vs) H := by
  intro vs H Q E h
  obtain ⟨z, rfl, hz, hok, q⟩ := h
  unfold t__law_digits
  unfold isDig at q
  walk_at "go"
  refine w_dec (fun e => ?_) (fun e => ?_)
  · walk_at "go"
    rw [decide_eq_true e] at q
    exact q H (Gr.refl _ _)
  · rw [decide_eq_false e] at q
    walk_at "go"
    refine w_lcT (w_var rfl (lc_T (T := T) (fun c => !decide (c ∈ ("0123456789" : Str).cps.toList)) (fun c => .str ⟨#[c]⟩) (by omega) (fun _ => rfl) (fun c hc H2 g2 Yes No hy hn => ?_) (fun D H3 g3 nD h3 => ?_)))
    · walk_at "go"
      refine w_notInC ?_
      walk_at "go"
      refine w_ndec (fun e2 => ?_) (fun e2 => ?_)
      · walk_at "go"
        exact hy (by simpa using e2) _ (Gr.refl _ _)
      · exact hn (by simpa using e2) _ (Gr.refl _ _)
    · walk_at "go"
      intro l H4 nl g4 h4
      have s1 : SqL K H4 D ((((tl z).filter fun c => !decide (c ∈ ("0123456789" : Str).cps.toList)).map fun c => V.str ⟨#[c]⟩)) := sqL_of ((g4 T).lst h3)
      have g34 : Gr T H H4 := g3.trans (g4 T)
      generalize hfl : (tl z).filter (fun c => !decide (c ∈ ("0123456789" : Str).cps.toList)) = fl at *
      have s2 : SqL K H4 l (([] : List Str).map V.str) := sqL_of h4
      have e0 : fl.map (fun c => V.str ⟨#[c]⟩) = (fl.map fun c => (⟨#[c]⟩ : Str)).map V.str := by rw [List.map_map]; rfl
      rw [e0] at s1
      refine ⟨_, _, .lst s1 (dp_strs _), .lst s2 (dp_strs _), shaped_S _ (fun n hn d hd => by
        obtain ⟨c, hc, rfl⟩ := List.mem_map.mp hn
        have hd : d = c := by simpa [tl] using hd
        rw [hd]
        exact hok c (by rw [← hfl] at hc; exact (List.mem_filter.mp hc).1)), shaped_S _ (by simp), ?_⟩
      have hall : ((tl z).all fun c => decide (c ∈ ("0123456789" : Str).cps.toList)) = decide (fl = []) := by
        rw [← hfl, Bool.eq_iff_iff, decide_eq_true_iff, List.all_eq_true, List.filter_eq_nil_iff]
        constructor
        · intro h c hc
          rw [h c hc]; decide
        · intro h c hc
          have := h c hc
          simpa using this
      have hev : PyData.eqv (.list ((fl.map fun c => (⟨#[c]⟩ : Str)).map PyData.str)) (.list (([] : List Str).map PyData.str)) = decide (fl = []) := by
        cases fl with
        | nil => rfl
        | cons c r => rfl
      rw [hev]
      have hall2 : (z.cps.toList.all fun c => decide (c ∈ ("0123456789" : Str).cps.toList)) = decide (fl = []) := hall
      rw [hall2] at q
      walk_at "go"
      refine w_ndec (fun e2 => ?_) (fun e2 => ?_)
      · rw [decide_eq_false e2] at q
        walk_at "go"
        exact q H4 g34
      · rw [decide_eq_true e2] at q
        have hne : z.cps.toList ≠ [] := fun e4 => e (ext_tl e4)
        obtain ⟨c, r, ec⟩ : ∃ c r, z.cps.toList = c :: r := by
          cases h5 : z.cps.toList with
          | nil => exact absurd h5 hne
          | cons c r => exact ⟨c, r, rfl⟩
        walk_at "go"
        refine w_bool (fun e4 => ?_) (fun e4 => ?_)
        · rw [e4] at q
          exact q H4 g34
        · rw [e4] at q
          walk_at "go"
          refine ⟨c, Nat.le_trans hz (by decide), by rw [ec]; exact atI_nat (j := 0) rfl, ?_⟩
          walk_at "go"
          rw [ec] at q
          exact q H4 g34
end K00
end
section
set_option Elab.async false
set_option linter.all false
set_option maxRecDepth 100000
set_option maxHeartbeats 4000000
namespace K00
open PySem PySem.Spec PyProof.Rows L2 LamX U Evl TL L2H HotX LHot LX LV NdefX LW
/-! ### steps, by program -/
local macro_rules | `(tactic| walk_at "kp") => `(tactic| first
  | assumption
  | exact sqA_of (by assumption)
  | exact sqB_of (by assumption)
  | exact sqL_of (by assumption)
  | exact sqT_of (by assumption)
  | exact Or.inl (by assumption)
  | exact Or.inr (by assumption)
  | exact Gr.refl _ _
  | exact GrA.gr (by assumption)
  | (apply Gr.trans ?_ (by first | assumption | exact GrA.gr (by assumption)); walk_at "kp")
  | (apply Gr.xd; (first | assumption | exact GrA.gr (T := []) (by assumption)); walk_at "kp")
  | (apply Gr.sq; (first | assumption | exact GrA.gr (T := []) (by assumption)); walk_at "kp")
  | (apply Gr.sqL; (first | assumption | exact GrA.gr (T := []) (by assumption)); walk_at "kp")
  | (apply Gr.sqT; (first | assumption | exact GrA.gr (T := []) (by assumption)); walk_at "kp")
  | (apply Gr.lst; (first | assumption | exact GrA.gr (T := []) (by assumption)); walk_at "kp")
  | (apply Gr.tup; (first | assumption | exact GrA.gr (T := []) (by assumption)); walk_at "kp"))
local macro_rules | `(tactic| walk_at "s") => `(tactic| first
  | with_reducible first
    | refine w_seq ?_ | refine w_asg ?_ | refine w_gname ?_ | refine w_if ?_ | refine w_ret ?_ | refine w_next ?_ | refine w_drop ?_ | refine w_retN ?_ | refine w_brk ?_ | refine w_cont ?_ | refine w_gsub ?_
    | refine w_op ?_ | refine w_c ?_ | refine w_nil ?_ | refine w_cons ?_ | refine w_cb ?_ | refine w_un ?_
    | refine w_I0 ?_ | refine w_U ?_ | refine w_add ?_ | refine w_test ?_ | refine w_tB ?_ | refine w_tr ?_ | refine w_exn ?_ | refine w_trn ?_ | refine w_and ?_ | refine w_or ?_ | refine w_not ?_ | refine w_andV ?_ | refine w_orV ?_ | refine w_notV ?_ | refine w_ifE ?_
    | refine w_eqI ?_ | refine w_neI ?_ | refine w_eqS ?_ | refine w_neS ?_ | refine w_eqB ?_ | refine w_neB ?_ | refine w_isNo ?_ | refine w_notN ?_
    | refine w_call0 ?_ | refine w_tupK ?_ | refine w_lstK ?_ | refine w_bm ?_ | refine w_nop ?_ | refine w_part ?_ | refine w_exi ?_ | refine w_sl ?_
    | refine w_lcS ?_ | refine w_lcR1 ?_ | refine w_lcR2 ?_ | refine w_lcE ?_ | refine w_frS ?_ | refine w_frR1 ?_ | refine w_frR2 ?_ | refine w_frE ?_ | refine w_frT ?_
    | refine w_tYes ?_ | refine w_lcH ?_ | refine w_callE ?_ | refine w_iteD ?_ | refine w_iteND ?_ | refine w_raise ?_ | refine raK1 ?_ | refine raK2 ?_ | refine w_iteNT ?_ | refine w_iteNF ?_ | refine w_ckw ?_ | refine w_callN ?_ | refine w_m1 ?_ | refine w_yes1 ?_ | refine w_iteT ?_ | refine w_iteF ?_ | refine w_abs ?_ | refine w_max2 ?_ | refine w_max3 ?_ | refine w_min2 ?_ | refine w_intI ?_
  | (with_reducible apply w_var; with_unfolding_all rfl)
  | (with_reducible apply w_lenI; walk_at "kp")
  | (with_reducible apply w_len; walk_at "kp")
  | (with_reducible apply w_sum; walk_at "kp")
  | (with_reducible refine lstK ?_ ?_; exact Nat.le_of_ble_eq_true rfl)
  | (with_reducible refine tupK ?_ ?_; exact Nat.le_of_ble_eq_true rfl)
  | (with_reducible apply w_list; walk_at "kp")
  | (with_reducible apply w_tuple; walk_at "kp")
  | (with_reducible apply w_slI; walk_at "kp")
  | (with_reducible apply w_inI; walk_at "kp")
  | (with_reducible apply w_notInI; walk_at "kp"))
local macro_rules | `(tactic| walk_at "go") => `(tactic| repeat' (walk_at "s"))
variable {K : PySem.W.Frag} {T : List (Addr × Str)}
def spLawDigits (T : List (Addr × Str)) : Sp := fun vs H Q _ => ∃ z : Str, vs = [.str z] ∧ z.length ≤ 640 ∧ Ok z ∧ ∀ H', Gr T H H' → Q (.bl (isDig z)) H'
def spReads (K : PySem.W.Frag) (T : List (Addr × Str)) : Sp := fun vs H Q _ => ∃ z : Str, vs = [.str z] ∧ z.length ≤ 640 ∧ Ok z ∧ (partsOf z = none → ∀ H', Gr T H H' → Q .non H') ∧
  ∀ a b, partsOf z = some (a, b) → ∀ p H', Gr T H H' → SqT K H' p [.int a, .int b] → Q (.ref p) H'
theorem Ok.cut {z : Str} (h : Ok z) (lo hi : Option Int) : Ok (cutS z lo hi) := fun c hc => by
  refine h c ?_
  have : c ∈ ((tl z).drop (HT.sIx z.length 0 lo)).take (HT.sIx z.length z.length hi - HT.sIx z.length 0 lo) := hc
  exact List.mem_of_mem_drop (List.mem_of_mem_take this)
theorem Ok.body {z : Str} (h : Ok z) : Ok (bodyOf z) := by
  unfold bodyOf
  split
  · exact h.cut _ _
  · exact h
theorem w_uInt {z : Str} {H : Hp} {Q : VK} (h : isDig z = true) (hl : z.length ≤ 640) (q : Q (.int (valOf z)) H) : uInt [.str z] H Q := ⟨_, dig_int h hl, hl, q⟩
theorem rd_law_reads : ∀ vs H Q (E : XK), spReads K T vs H Q E → t__law_reads K (spLawDigits T) (E_ Q) (start ["word", "high", "low", "spot"] vs) H := by
  intro vs H Q E h
  obtain ⟨z, rfl, hz, hok, qn, qs⟩ := h
  unfold t__law_reads
  unfold partsOf at qn qs
  have hmin : decide (cutS z none (some 1) = "-") = minusOf z := rfl
  have okb := hok.body
  have lb := len_body z
  -- behind the cut
  have fin : ∀ (hd lo : Str) (u : Option V), hd.length ≤ 640 → lo.length ≤ 640 → Ok hd → Ok lo → ((¬ (isDig hd = true ∧ isDig lo = true ∧ lo ≠ "0")) → ∀ H', Gr T H H' → Q .non H') →
      ((isDig hd = true ∧ isDig lo = true ∧ lo ≠ "0") → ∀ p H', Gr T H H' → SqT K H' p [.int (sgOf z hd), .int (valOf lo)] → Q (.ref p) H') →
      (tSeq (tIfS (tOr (tNot (L2.tB (tCall (spLawDigits T) [] E0 (tCons (tVar 1) tNil)))) (tOr (tNot (L2.tB (tCall (spLawDigits T) [] E0 (tCons (tVar 2) tNil)))) (tTest (tOp (uEq K) (tVar 2) (tC (.str "0")))))) (tRet (tC .non)) tNext)
      (tRet (tTup (tCons (tIf (tTest (tOp (uEq K) (tSl (rSl K) (tVar 0) tNoPart (tPart (tC (.int 1)))) (tC (.str "-")))) (tOp qSub (tC (.int 0)) (tCB (uInt) (tCons (tVar 1) tNil))) (tCB (uInt) (tCons (tVar 1) tNil))) (tCons (tCB (uInt) (tCons (tVar 2) tNil)) tNil))))) (E_ Q) [some (.str z), some (.str hd), some (.str lo), u] H := by
    intro hd lo u l1 l2 o1 o2 q1 q2
    walk_at "go"
    refine ⟨hd, rfl, l1, o1, fun H1 g1 => ?_⟩
    walk_at "go"
    cases e1 : isDig hd with
    | false =>
      walk_at "go"
      exact q1 (fun z => by rw [e1] at z; exact absurd z.1 (by decide)) H1 g1
    | true =>
      walk_at "go"
      refine ⟨lo, rfl, l2, o2, fun H2 g2 => ?_⟩
      walk_at "go"
      cases e2 : isDig lo with
      | false =>
        walk_at "go"
        exact q1 (fun z => by rw [e2] at z; exact absurd z.2.1 (by decide)) H2 (g1.trans g2)
      | true =>
        walk_at "go"
        refine w_dec (fun e3 => ?_) (fun e3 => ?_)
        · walk_at "go"
          exact q1 (fun z => z.2.2 e3) H2 (g1.trans g2)
        · walk_at "go"
          refine w_slZ (by omega) ?_
          walk_at "go"
          rw [hmin]
          have q2 := q2 ⟨e1, e2, e3⟩
          unfold sgOf at q2
          refine w_bool (fun em => ?_) (fun em => ?_)
          · rw [em] at q2
            walk_at "go"
            refine w_uInt e1 l1 ?_
            walk_at "go"
            refine w_uInt e2 l2 ?_
            walk_at "go"
            intro p H3 np g3 h3
            refine q2 p H3 ((g1.trans g2).trans (g3 T)) ?_
            rw [if_pos rfl, show -(valOf hd) = 0 - valOf hd by omega]
            exact sqT_of h3
          · rw [em] at q2
            walk_at "go"
            refine w_uInt e1 l1 ?_
            walk_at "go"
            refine w_uInt e2 l2 ?_
            walk_at "go"
            intro p H3 np g3 h3
            exact q2 p H3 ((g1.trans g2).trans (g3 T)) (sqT_of h3)
  have key : ∀ b : Str, b = bodyOf z → (tSeq (tAsg (tC (.str "1")) (gName 2))
      (tSeq (tIfS (tTest (tOp (uIn K false) (tC (.str "/")) (tVar 1))) (tSeq (tAsg (tM1 qFind (tVar 1) (tC (.str "/"))) (gName 3))
      (tSeq (tAsg (tSl (rSl K) (tVar 1) (tPart (tOp (uAdd K) (tVar 3) (tC (.int 1)))) tNoPart) (gName 2))
      (tAsg (tSl (rSl K) (tVar 1) tNoPart (tPart (tVar 3))) (gName 1)))) tNext)
      (tSeq (tIfS (tOr (tNot (L2.tB (tCall (spLawDigits T) [] E0 (tCons (tVar 1) tNil)))) (tOr (tNot (L2.tB (tCall (spLawDigits T) [] E0 (tCons (tVar 2) tNil)))) (tTest (tOp (uEq K) (tVar 2) (tC (.str "0")))))) (tRet (tC .non)) tNext)
      (tRet (tTup (tCons (tIf (tTest (tOp (uEq K) (tSl (rSl K) (tVar 0) tNoPart (tPart (tC (.int 1)))) (tC (.str "-")))) (tOp qSub (tC (.int 0)) (tCB (uInt) (tCons (tVar 1) tNil))) (tCB (uInt) (tCons (tVar 1) tNil))) (tCons (tCB (uInt) (tCons (tVar 2) tNil)) tNil))))))) (E_ Q) [some (.str z), some (.str b), none, none] H := by
    rintro b rfl
    walk_at "s"
    walk_at "s"
    walk_at "s"
    walk_at "s"
    walk_at "s"
    walk_at "s"
    refine w_test (w_op (w_c (w_var rfl (w_inSl ⟨_, rfl, ?_⟩))))
    by_cases hm : 47 ∈ tl (bodyOf z)
    · obtain ⟨k, e1, e2, e3⟩ := find_split hm
      rw [e3] at qn qs
      dsimp only at qn qs
      refine w_yes (decide_eq_true hm) ?_
      refine w_seq (w_asg (w_m1 (w_var rfl (w_yes1 (w_c ⟨_, _, rfl, rfl, ?_⟩)))))
      rw [e1]
      refine w_gname (w_seq (w_asg (w_sl (w_var rfl (w_part (w_op (w_var rfl (w_c (w_add (w_exi (w_nop (w_slZ (by omega) ?_))))))))))))
      refine w_gname (w_asg (w_sl (w_var rfl (w_nop (w_part (w_var rfl (w_exi (w_slZ (by omega) (w_gname ?_)))))))))
      have l1 := cutS_length (bodyOf z) none (some (k : Int))
      have l2 := cutS_length (bodyOf z) (some ((k + 1 : Nat) : Int)) none
      refine fin _ _ _ (by omega) (by exact Nat.le_trans l2 (by omega)) (okb.cut _ _) (okb.cut _ _) (fun hno => ?_) (fun hyes => ?_)
      · refine qn ?_
        by_cases h1 : isDig (cutS (bodyOf z) none (some (k : Int))) = true
        · rw [if_pos h1, if_neg slash_ne, if_neg]
          rintro ⟨h2, h3⟩
          exact hno ⟨h1, h2, h3⟩
        · rw [if_neg h1]
      · refine qs _ _ ?_
        rw [if_pos hyes.1, if_neg slash_ne, if_pos ⟨hyes.2.1, hyes.2.2⟩]
        rfl
    · rw [part_free hm] at qn qs
      dsimp only at qn qs
      refine w_no (decide_eq_false hm) ?_
      refine w_next ?_
      have d1 : isDig "1" = true := by decide +kernel
      have v1 : valOf "1" = 1 := by decide +kernel
      have n1 : ("1" : Str) ≠ "0" := by decide +kernel
      have k1 : Ok "1" := fun c hc => by
        have : c ∈ tl ("1" : Str) := hc
        rw [show tl ("1" : Str) = [49] by decide +kernel] at this
        have : c = 49 := by simpa using this
        omega
      refine fin _ _ _ (by omega) (by decide +kernel) okb k1 (fun hno => ?_) (fun hyes => ?_)
      · refine qn ?_
        rw [if_neg fun h1 => hno ⟨h1, d1, n1⟩]
      · rw [v1]
        refine qs _ _ ?_
        rw [if_pos hyes.1, if_pos (show Str.empty = ("" : Str) from rfl)]
  walk_at "go"
  refine w_slZ (by omega) ?_
  walk_at "go"
  rw [hmin]
  cases em : minusOf z with
  | true =>
    walk_at "go"
    refine w_slZ (by omega) ?_
    exact key _ (by unfold bodyOf; rw [if_pos em])
  | false =>
    refine w_no rfl (w_var rfl ?_)
    exact key _ (by unfold bodyOf; rw [if_neg (by rw [em]; decide)])

/-! ### what is due -/
def PairArg (K : PySem.W.Frag) (H : Hp) (v : V) (o : Option (Int × Int)) : Prop := (v = .non ∧ o = none) ∨ ∃ (p : Addr) (a b : Int), v = .ref p ∧ SqT K H p [.int a, .int b] ∧ o = some (a, b) ∧ Sm a ∧ Sm b ∧ 0 < b
def dueOf : Option (Int × Int) → List PyData
  | none => [.str "BadNumber", .int 0]
  | some (a, b) => if 60 < mostOf a b then [.str "TooMany", .str "digits", .int (mostOf a b : Nat)] else [.str "fine", .tuple [.int (lowOf a b).1, .int (lowOf a b).2]]
def spDue (K : PySem.W.Frag) (T : List (Addr × Str)) : Sp := fun vs H Q _ => ∃ v o, vs = [v] ∧ PairArg K H v o ∧ ∀ l xs H', Gr T H H' → H' l = some (.lst xs) → DpAll K H' xs (dueOf o) → Q (.ref l) H'
theorem rd_law_due : ∀ vs H Q (E : XK), spDue K T vs H Q E → t__law_due K (spPairOf K T) (E_ Q) (start ["pair", "most"] vs) H := by
  intro vs H Q E h
  obtain ⟨v, o, rfl, hv, q⟩ := h
  unfold t__law_due
  rcases hv with ⟨rfl, rfl⟩ | ⟨p, a, b, rfl, hp, rfl, ha, hb, h0⟩
  · walk_at "go"
    intro l H1 nl g1 h1
    exact q l _ H1 (g1 T) h1 (.cons (.str _) (.cons (.int _) .nil))
  · have lx : (tx (a.natAbs : Int)).length = nd a := rfl
    have ly : (tx b).length = nd b := by
      obtain ⟨n, rfl⟩ := Int.eq_ofNat_of_zero_le (show 0 ≤ b by omega)
      rfl
    have l1 := nd_le ha
    have l2 := nd_le hb
    have sa : Sm (a.natAbs : Int) := by unfold Sm at *; rw [Int.natAbs_natCast]; exact ha
    unfold dueOf at q
    dsimp only at q
    walk_at "go"
    refine w_no (by simp) ?_
    walk_at "go"
    refine w_ix (.inr hp) (by decide) rfl ?_
    walk_at "go"
    refine w_strS sa ?_
    walk_at "go"
    refine w_lenS (Nat.le_trans (by omega : (tx (a.natAbs : Int)).length ≤ 100000) szl) ?_
    walk_at "go"
    refine w_ix (.inr hp) (by decide) rfl ?_
    walk_at "go"
    refine w_strS hb ?_
    walk_at "go"
    refine w_lenS (Nat.le_trans (by omega : (tx b).length ≤ 100000) szl) ?_
    walk_at "go"
    have em : max (((tx (a.natAbs : Int)).length : Nat) : Int) (((tx b).length : Nat) : Int) = ((mostOf a b : Nat) : Int) := by
      unfold mostOf
      omega
    rw [em]
    refine w_dec (fun e => ?_) (fun e => ?_)
    · rw [if_pos (by omega)] at q
      walk_at "go"
      intro l H1 nl g1 h1
      exact q l _ H1 (g1 T) h1 (.cons (.str _) (.cons (.str _) (.cons (.int _) .nil)))
    · rw [if_neg (by omega)] at q
      walk_at "go"
      refine w_ix (.inr hp) (by decide) rfl ?_
      walk_at "go"
      refine w_ix (.inr hp) (by decide) rfl ?_
      walk_at "go"
      refine ⟨a, b, rfl, ha, hb, h0, fun p2 H1 g1 h1 => ?_⟩
      walk_at "go"
      intro l H2 nl g2 h2
      exact q l _ H2 (g1.trans (g2 T)) h2 (.cons (.str _) (.cons (.tup (sqT_of ((g2 T).tup h1)) (.cons (.int _) (.cons (.int _) .nil))) .nil))
/-! ### draws -/
def spReach (K : PySem.W.Frag) : Sp := fun vs H Q _ => ∃ J far, vs = [.ref J, .int far] ∧ Jar K H J ∧ 0 ≤ far ∧ far ≤ 1000 ∧ ∀ d, -far ≤ d → d ≤ far → Q (.int d) H
theorem rd_law_reach : ∀ vs H Q (E : XK), spReach K vs H Q E → t__law_reach K (spDraw K) (E_ Q) (start ["jar", "far"] vs) H := by
  intro vs H Q E h
  obtain ⟨J, far, rfl, hj, h0, h1, q⟩ := h
  unfold t__law_reach
  walk_at "go"
  refine w_mul (.inl ⟨by decide, by decide⟩) ?_
  walk_at "go"
  refine ⟨J, _, rfl, hj, by omega, by omega, fun d d0 d1 => ?_⟩
  walk_at "go"
  exact q _ (by omega) (by omega)
theorem Gr.jar {H H' : Hp} {J : Addr} (g : Gr T H H') (h : Jar K H J) : Jar K H' J := by
  obtain ⟨c, ns, hJ, hc, hn⟩ := h
  exact ⟨c, ns, g.keep _ _ hJ jar_tbl, g.sqL hc, hn⟩
def spInteger (K : PySem.W.Frag) (T : List (Addr × Str)) : Sp := fun vs H Q _ => ∃ J, vs = [.ref J] ∧ Jar K H J ∧ ∀ n H', Gr T H H' → 1 ≤ n → n < 10 ^ 62 → Q (.int n) H'
theorem rd_law_integer : ∀ vs H Q (E : XK), spInteger K T vs H Q E → t__law_integer K (spDraw K) (spPick K) (E_ Q) (start ["jar"] vs) H := by
  intro vs H Q E h
  obtain ⟨J, rfl, hj, q⟩ := h
  unfold t__law_integer
  have cp : ∀ n : Nat, n ≤ 100 → CPow 10 (n : Int) := fun n hn => ⟨by omega, by omega, by decide⟩
  walk_at "go"
  refine ⟨J, 4, rfl, hj, by decide, by decide, fun d d0 d1 => ?_⟩
  walk_at "go"
  refine w_dec (fun e => ?_) (fun e => ?_)
  · walk_at "go"
    refine w_I (cp 58 (by decide)) ?_
    walk_at "go"
    refine w_I (cp 59 (by decide)) ?_
    walk_at "go"
    refine w_I (cp 60 (by decide)) ?_
    walk_at "go"
    refine w_I (cp 61 (by decide)) ?_
    walk_at "go"
    intro m H1 nm g1 h1
    refine ⟨J, m, _, rfl, (g1 T).jar hj, sqA_of h1, by decide, by decide, fun x hx => ?_⟩
    obtain ⟨i, rfl, hi0, hi⟩ : ∃ i : Int, x = .int i ∧ 0 < i ∧ i ≤ 10 ^ 61 := by
      simp only [List.mem_cons, List.not_mem_nil, or_false] at hx
      rcases hx with rfl | rfl | rfl | rfl
      · exact ⟨_, rfl, by decide, by decide⟩
      · exact ⟨_, rfl, by decide, by decide⟩
      · exact ⟨_, rfl, by decide, by decide⟩
      · exact ⟨_, rfl, by decide, by decide⟩
    walk_at "go"
    refine ⟨J, 9, rfl, (g1 T).jar hj, by decide, by decide, fun d2 e0 e1 => ?_⟩
    walk_at "go"
    refine w_mul (.inr ⟨by omega, by omega⟩) ?_
    walk_at "go"
    refine w_I (cp 6 (by decide)) ?_
    refine ⟨J, _, rfl, (g1 T).jar hj, by decide, by decide, fun d3 f0 f1 => ?_⟩
    have f2 : d3 < 1000000 := f1
    have u : i * (1 + d2) ≤ 10 ^ 61 * 9 := Int.le_trans (Int.mul_le_mul_of_nonneg_right hi (by omega)) (Int.mul_le_mul_of_nonneg_left (by omega) (by decide))
    have l : 1 ≤ i * (1 + d2) := Int.mul_pos hi0 (by omega)
    walk_at "go"
    refine q _ H1 (g1 T) (by omega) ?_
    have e3 : (10 : Int) ^ 61 * 9 + 1000000 < 10 ^ 62 := by decide
    omega
  · walk_at "go"
    refine w_I (cp 6 (by decide)) ?_
    walk_at "go"
    intro m H1 nm g1 h1
    refine ⟨J, m, _, rfl, (g1 T).jar hj, sqA_of h1, by decide, by decide, fun x hx => ?_⟩
    obtain ⟨i, rfl, hi0, hi⟩ : ∃ i : Int, x = .int i ∧ 0 < i ∧ i ≤ 1000000 := by
      simp only [List.mem_cons, List.not_mem_nil, or_false] at hx
      rcases hx with rfl | rfl | rfl | rfl
      · exact ⟨_, rfl, by decide, by decide⟩
      · exact ⟨_, rfl, by decide, by decide⟩
      · exact ⟨_, rfl, by decide, by decide⟩
      · exact ⟨_, rfl, by decide, by decide⟩
    walk_at "go"
    refine ⟨J, _, rfl, (g1 T).jar hj, hi0, by omega, fun d3 f0 f1 => ?_⟩
    walk_at "go"
    refine q _ H1 (g1 T) (by omega) ?_
    have e3 : (1000001 : Int) < 10 ^ 62 := by decide
    omega
def spThing (K : PySem.W.Frag) (T : List (Addr × Str)) : Sp := fun vs H Q _ => ∃ J, vs = [.ref J] ∧ Jar K H J ∧ ∀ v d H', Gr T H H' → Dp K H' v d → Flat 2 d → Short d → Q v H'
end K00
end
section
set_option Elab.async false
set_option linter.all false
set_option maxRecDepth 100000
set_option maxHeartbeats 4000000
namespace K00
open PySem PySem.Spec PyProof.Rows L2 LamX U Evl TL L2H HotX LHot LX LV NdefX LW
/-! ### steps, by program -/
local macro_rules | `(tactic| walk_at "kp") => `(tactic| first
  | assumption
  | exact sqA_of (by assumption)
  | exact sqB_of (by assumption)
  | exact sqL_of (by assumption)
  | exact sqT_of (by assumption)
  | exact Or.inl (by assumption)
  | exact Or.inr (by assumption)
  | exact Gr.refl _ _
  | exact GrA.gr (by assumption)
  | (apply Gr.trans ?_ (by first | assumption | exact GrA.gr (by assumption)); walk_at "kp")
  | (apply Gr.xd; (first | assumption | exact GrA.gr (T := []) (by assumption)); walk_at "kp")
  | (apply Gr.sq; (first | assumption | exact GrA.gr (T := []) (by assumption)); walk_at "kp")
  | (apply Gr.sqL; (first | assumption | exact GrA.gr (T := []) (by assumption)); walk_at "kp")
  | (apply Gr.sqT; (first | assumption | exact GrA.gr (T := []) (by assumption)); walk_at "kp")
  | (apply Gr.lst; (first | assumption | exact GrA.gr (T := []) (by assumption)); walk_at "kp")
  | (apply Gr.tup; (first | assumption | exact GrA.gr (T := []) (by assumption)); walk_at "kp"))
local macro_rules | `(tactic| walk_at "s") => `(tactic| first
  | with_reducible first
    | refine w_seq ?_ | refine w_asg ?_ | refine w_gname ?_ | refine w_if ?_ | refine w_ret ?_ | refine w_next ?_ | refine w_drop ?_ | refine w_retN ?_ | refine w_brk ?_ | refine w_cont ?_ | refine w_gsub ?_
    | refine w_op ?_ | refine w_c ?_ | refine w_nil ?_ | refine w_cons ?_ | refine w_cb ?_ | refine w_un ?_
    | refine w_I0 ?_ | refine w_U ?_ | refine w_add ?_ | refine w_test ?_ | refine w_tB ?_ | refine w_tr ?_ | refine w_exn ?_ | refine w_trn ?_ | refine w_and ?_ | refine w_or ?_ | refine w_not ?_ | refine w_andV ?_ | refine w_orV ?_ | refine w_notV ?_ | refine w_ifE ?_
    | refine w_eqI ?_ | refine w_neI ?_ | refine w_eqS ?_ | refine w_neS ?_ | refine w_eqB ?_ | refine w_neB ?_ | refine w_isNo ?_ | refine w_notN ?_
    | refine w_call0 ?_ | refine w_tupK ?_ | refine w_lstK ?_ | refine w_bm ?_ | refine w_nop ?_ | refine w_part ?_ | refine w_exi ?_ | refine w_sl ?_
    | refine w_lcS ?_ | refine w_lcR1 ?_ | refine w_lcR2 ?_ | refine w_lcE ?_ | refine w_frS ?_ | refine w_frR1 ?_ | refine w_frR2 ?_ | refine w_frE ?_ | refine w_frT ?_
    | refine w_tYes ?_ | refine w_lcH ?_ | refine w_callE ?_ | refine w_iteD ?_ | refine w_iteND ?_ | refine w_raise ?_ | refine raK1 ?_ | refine raK2 ?_ | refine w_iteNT ?_ | refine w_iteNF ?_ | refine w_ckw ?_ | refine w_callN ?_ | refine w_m1 ?_ | refine w_yes1 ?_ | refine w_iteT ?_ | refine w_iteF ?_ | refine w_abs ?_ | refine w_max2 ?_ | refine w_max3 ?_ | refine w_min2 ?_ | refine w_intI ?_
  | (with_reducible apply w_var; with_unfolding_all rfl)
  | (with_reducible apply w_lenI; walk_at "kp")
  | (with_reducible apply w_len; walk_at "kp")
  | (with_reducible apply w_sum; walk_at "kp")
  | (with_reducible refine lstK ?_ ?_; exact Nat.le_of_ble_eq_true rfl)
  | (with_reducible refine tupK ?_ ?_; exact Nat.le_of_ble_eq_true rfl)
  | (with_reducible apply w_list; walk_at "kp")
  | (with_reducible apply w_tuple; walk_at "kp")
  | (with_reducible apply w_slI; walk_at "kp")
  | (with_reducible apply w_inI; walk_at "kp")
  | (with_reducible apply w_notInI; walk_at "kp"))
local macro_rules | `(tactic| walk_at "go") => `(tactic| repeat' (walk_at "s"))
theorem dg_lt (n : Nat) : n < 10 ^ (dg n).length := by
  refine Nat.lt_of_not_le fun h => ?_
  have := dg_ge h
  omega
theorem nd_mono {a b : Int} (h : a.natAbs ≤ b.natAbs) : nd a ≤ nd b := by
  unfold nd
  exact dg_le (dg_pos _) (Nat.lt_of_le_of_lt h (dg_lt _))
theorem low_low {a b : Int} (h0 : 0 < b) : lowOf (lowOf a b).1 (lowOf a b).2 = lowOf a b := by
  have hg := gcd_pos (x := a) h0
  have e1 : (lowOf a b).1.natAbs = a.natAbs / Nat.gcd a.natAbs b.natAbs := by
    show (a / (Nat.gcd a.natAbs b.natAbs : Nat)).natAbs = _
    rw [Int.natAbs_ediv_of_dvd (Int.ofNat_dvd_left.mpr (Nat.gcd_dvd_left _ _)), Int.natAbs_natCast]
  have e2 : (lowOf a b).2.natAbs = b.natAbs / Nat.gcd a.natAbs b.natAbs := by
    show (b / (Nat.gcd a.natAbs b.natAbs : Nat)).natAbs = _
    rw [Int.natAbs_ediv_of_dvd (Int.ofNat_dvd_left.mpr (Nat.gcd_dvd_right _ _)), Int.natAbs_natCast]
  have e3 : Nat.gcd (lowOf a b).1.natAbs (lowOf a b).2.natAbs = 1 := by
    rw [e1, e2]
    rw [Nat.gcd_div (Nat.gcd_dvd_left _ _) (Nat.gcd_dvd_right _ _), Nat.div_self hg]
  have key : ∀ p q : Int, Nat.gcd p.natAbs q.natAbs = 1 → lowOf p q = (p, q) := fun p q h => by
    unfold lowOf
    rw [h]
    show (p / 1, q / 1) = (p, q)
    rw [Int.ediv_one, Int.ediv_one]
  exact key _ _ e3
theorem most_low (a b : Int) : mostOf (lowOf a b).1 (lowOf a b).2 ≤ mostOf a b := by
  have h1 : nd (lowOf a b).1 ≤ nd a := nd_mono (Int.natAbs_ediv_le_natAbs _ _)
  have h2 : nd (lowOf a b).2 ≤ nd b := nd_mono (Int.natAbs_ediv_le_natAbs _ _)
  unfold mostOf
  omega
theorem parse_word {p q : Int} (h : 0 < q) : partsOf (wordOf p q) = some (p, q) := by
  unfold wordOf
  split
  · rename_i e
    rw [parse_int, e]
  · obtain ⟨n, rfl⟩ := Int.eq_ofNat_of_zero_le (show 0 ≤ q by omega)
    exact parse_frac p (by omega)
theorem word_len {p q : Int} (hp : Sm p) (hq : Sm q) : (wordOf p q).length ≤ 640 := by
  have h1 := tx_len hp
  have h2 := tx_len hq
  have l1 : ("/" : Str).length = 1 := by decide +kernel
  unfold wordOf
  split
  · omega
  · rw [len_app, len_app]
    omega
variable {K : PySem.W.Frag} {T : List (Addr × Str)}
theorem num_word {H : Hp} {p q : Int} (h : 0 < q) (hp : Sm p) (hq : Sm q) : NumArg K H (.str (wordOf p q)) (some (p, q)) := by
  have e := parse_word (p := p) h
  have := NumArg.txt (K := K) (H := H) (z := wordOf p q) (word_len hp hq) (fun a b z => by
    rw [e] at z
    cases z
    exact ⟨hp, hq, h⟩)
  rw [e] at this
  exact this
/-! ### what is told of a number stays in the cells' shadow -/
theorem Kx.to {H1 H2 : Hp} {v : V} (h : Kx K H1 v) (k : ∀ b o, H1 b = some o → (∀ φ, o ≠ .ext φ) → H2 b = some o) : Kx K H2 v := by
  cases h with
  | kd h => exact .kd (h.to k)
  | dct h => exact .dct (k _ _ h fun φ z => by cases z)
theorem BadV.to {H1 H2 : Hp} {v : V} (h : BadV K H1 v) (k : ∀ b o, H1 b = some o → (∀ φ, o ≠ .ext φ) → H2 b = some o) : BadV K H2 v := by
  cases h with
  | non => exact .non
  | bl b => exact .bl b
  | lst h => exact .lst (sqL_to h (k _))
  | dct h => exact .dct (k _ _ h fun φ z => by cases z)
  | len h n l => exact .len (sqT_to h (k _)) n l
  | two h hx hy b => exact .two (sqT_to h (k _)) (hx.to k) (hy.to k) b
theorem NumArg.to {H1 H2 : Hp} {v : V} {o : Option (Int × Int)} (h : NumArg K H1 v o) (k : ∀ b o, H1 b = some o → (∀ φ, o ≠ .ext φ) → H2 b = some o) : NumArg K H2 v o := by
  cases h with
  | int i h => exact .int i h
  | tup h h0 ha hb => exact .tup (sqT_to h (k _)) h0 ha hb
  | txt h hs => exact .txt h hs
  | bad h => exact .bad (h.to k)
theorem Gr.non {H H' : Hp} (g : Gr T H H') : ∀ b o, H b = some o → (∀ φ, o ≠ .ext φ) → (∀ ps, o ≠ .tbl ps) → H' b = some o := fun b o e _ n => g.keep b o e n
theorem Gr.num {H H' : Hp} {v : V} {o : Option (Int × Int)} (g : Gr T H H') (h : NumArg K H v o) : NumArg K H' v o := by
  cases h with
  | int i h => exact .int i h
  | tup h h0 ha hb => exact .tup (g.sqT h) h0 ha hb
  | txt h hs => exact .txt h hs
  | bad h =>
    refine .bad ?_
    cases h with
    | non => exact .non
    | bl b => exact .bl b
    | lst h => exact .lst (g.sqL h)
    | dct h => exact .dct (g.keep _ _ h fun _ z => by cases z)
    | len h n l => exact .len (g.sqT h) n l
    | two h hx hy b => exact .two (g.sqT h) (Gr.kx g hx) (Gr.kx g hy) b
end K00
end
section
set_option Elab.async false
set_option linter.all false
set_option maxRecDepth 100000
set_option maxHeartbeats 4000000
namespace K00
open PySem PySem.Spec PyProof.Rows L2 LamX U Evl TL L2H HotX LHot LX LV NdefX LW
/-! ### steps, by program -/
local macro_rules | `(tactic| walk_at "kp") => `(tactic| first
  | assumption
  | exact sqA_of (by assumption)
  | exact sqB_of (by assumption)
  | exact sqL_of (by assumption)
  | exact sqT_of (by assumption)
  | exact Or.inl (by assumption)
  | exact Or.inr (by assumption)
  | exact Gr.refl _ _
  | exact GrA.gr (by assumption)
  | (apply Gr.trans ?_ (by first | assumption | exact GrA.gr (by assumption)); walk_at "kp")
  | (apply Gr.xd; (first | assumption | exact GrA.gr (T := []) (by assumption)); walk_at "kp")
  | (apply Gr.sq; (first | assumption | exact GrA.gr (T := []) (by assumption)); walk_at "kp")
  | (apply Gr.sqL; (first | assumption | exact GrA.gr (T := []) (by assumption)); walk_at "kp")
  | (apply Gr.sqT; (first | assumption | exact GrA.gr (T := []) (by assumption)); walk_at "kp")
  | (apply Gr.lst; (first | assumption | exact GrA.gr (T := []) (by assumption)); walk_at "kp")
  | (apply Gr.tup; (first | assumption | exact GrA.gr (T := []) (by assumption)); walk_at "kp"))
local macro_rules | `(tactic| walk_at "s") => `(tactic| first
  | with_reducible first
    | refine w_seq ?_ | refine w_asg ?_ | refine w_gname ?_ | refine w_if ?_ | refine w_ret ?_ | refine w_next ?_ | refine w_drop ?_ | refine w_retN ?_ | refine w_brk ?_ | refine w_cont ?_ | refine w_gsub ?_
    | refine w_op ?_ | refine w_c ?_ | refine w_nil ?_ | refine w_cons ?_ | refine w_cb ?_ | refine w_un ?_
    | refine w_I0 ?_ | refine w_U ?_ | refine w_add ?_ | refine w_test ?_ | refine w_tB ?_ | refine w_tr ?_ | refine w_exn ?_ | refine w_trn ?_ | refine w_and ?_ | refine w_or ?_ | refine w_not ?_ | refine w_andV ?_ | refine w_orV ?_ | refine w_notV ?_ | refine w_ifE ?_
    | refine w_eqI ?_ | refine w_neI ?_ | refine w_eqS ?_ | refine w_neS ?_ | refine w_eqB ?_ | refine w_neB ?_ | refine w_isNo ?_ | refine w_notN ?_
    | refine w_call0 ?_ | refine w_tupK ?_ | refine w_lstK ?_ | refine w_bm ?_ | refine w_nop ?_ | refine w_part ?_ | refine w_exi ?_ | refine w_sl ?_
    | refine w_lcS ?_ | refine w_lcR1 ?_ | refine w_lcR2 ?_ | refine w_lcE ?_ | refine w_frS ?_ | refine w_frR1 ?_ | refine w_frR2 ?_ | refine w_frE ?_ | refine w_frT ?_
    | refine w_tYes ?_ | refine w_lcH ?_ | refine w_callE ?_ | refine w_iteD ?_ | refine w_iteND ?_ | refine w_raise ?_ | refine raK1 ?_ | refine raK2 ?_ | refine w_iteNT ?_ | refine w_iteNF ?_ | refine w_ckw ?_ | refine w_callN ?_ | refine w_m1 ?_ | refine w_yes1 ?_ | refine w_iteT ?_ | refine w_iteF ?_ | refine w_abs ?_ | refine w_max2 ?_ | refine w_max3 ?_ | refine w_min2 ?_ | refine w_intI ?_
  | (with_reducible apply w_var; with_unfolding_all rfl)
  | (with_reducible apply w_lenI; walk_at "kp")
  | (with_reducible apply w_len; walk_at "kp")
  | (with_reducible apply w_sum; walk_at "kp")
  | (with_reducible refine lstK ?_ ?_; exact Nat.le_of_ble_eq_true rfl)
  | (with_reducible refine tupK ?_ ?_; exact Nat.le_of_ble_eq_true rfl)
  | (with_reducible apply w_list; walk_at "kp")
  | (with_reducible apply w_tuple; walk_at "kp")
  | (with_reducible apply w_slI; walk_at "kp")
  | (with_reducible apply w_inI; walk_at "kp")
  | (with_reducible apply w_notInI; walk_at "kp"))
local macro_rules | `(tactic| walk_at "go") => `(tactic| repeat' (walk_at "s"))
variable {K : PySem.W.Frag} {T : List (Addr × Str)}
/-! ### like -/
theorem rd_law_like (n : Nat) : ∀ vs H Q (E : XK), spLikeN K T (n + 1) vs H Q E → t__law_like K (spLikeN K T n) (E_ Q) (start ["told", "due", "i"] vs) H := by
  intro vs H Q E h
  obtain ⟨v, u, d, rfl, hf, hsh, hv, hu, q⟩ := h
  unfold t__law_like
  have q0 := q H (Gr.refl _ _)
  walk_at "go"
  cases hu with
  | non =>
    cases hv
    refine w_isi tyx_non (b := false) (by decide +kernel) ?_
    walk_at "go"
    refine w_isi tyx_non (b := false) (by decide +kernel) ?_
    walk_at "go"
    refine w_isi tyx_non (b := false) (by decide +kernel) ?_
    walk_at "go"
    refine w_isi tyx_non (b := false) (by decide +kernel) ?_
    walk_at "go"
    refine w_isi tyx_non (b := false) (by decide +kernel) ?_
    walk_at "go"
    exact q0
  | bl b =>
    cases hv
    refine w_isi tyx_bl (b := true) (by decide +kernel) ?_
    walk_at "go"
    refine w_isi tyx_bl (b := true) (by decide +kernel) ?_
    walk_at "go"
    rw [decide_eq_true rfl]
    exact q0
  | str s =>
    cases hv
    refine w_isi tyx_str (b := false) (by decide +kernel) ?_
    walk_at "go"
    refine w_isi tyx_str (b := false) (by decide +kernel) ?_
    walk_at "go"
    refine w_isi tyx_str (b := true) (by decide +kernel) ?_
    walk_at "go"
    refine w_isi tyx_str (b := true) (by decide +kernel) ?_
    walk_at "go"
    rw [decide_eq_true rfl]
    exact q0
  | int i =>
    cases hv
    refine w_isi tyx_int (b := false) (by decide +kernel) ?_
    walk_at "go"
    refine w_isi tyx_int (b := true) (by decide +kernel) ?_
    walk_at "go"
    refine w_isi tyx_int (b := true) (by decide +kernel) ?_
    walk_at "go"
    refine w_isi tyx_int (b := false) (by decide +kernel) ?_
    walk_at "go"
    rw [decide_eq_true rfl]
    exact q0
  | lst hs ha =>
    rename_i a xs ds
    cases hv with
    | lst hs2 ha2 =>
      rename_i b ys
      cases hf with
      | lst hf =>
        cases hsh with
        | lst hl hsh =>
          rename_i m
          have l1 := dpAll_len ha
          have l2 := dpAll_len ha2
          refine isi_L hs (b := false) (by decide +kernel) ?_
          walk_at "go"
          refine isi_L hs (b := false) (by decide +kernel) ?_
          walk_at "go"
          refine isi_L hs (b := false) (by decide +kernel) ?_
          walk_at "go"
          refine isi_L hs (b := true) (by decide +kernel) ?_
          walk_at "go"
          refine isi_L hs2 (b := true) (by decide +kernel) ?_
          walk_at "go"
          refine isi_L hs (b := true) (by decide +kernel) ?_
          walk_at "go"
          refine isi_L hs2 (b := false) (by decide +kernel) ?_
          walk_at "go"
          refine isi_L hs (b := false) (by decide +kernel) ?_
          walk_at "go"
          refine w_len (.inl hs2) ?_
          walk_at "go"
          refine w_len (.inl hs) ?_
          walk_at "go"
          refine w_ndec (fun e => by omega) (fun _ => ?_)
          walk_at "go"
          refine w_len (.inl hs) ?_
          walk_at "go"
          refine fr_R1 (by omega) (by omega) (fun i σ H' => Gr T H H' ∧ ∃ z, σ = [some (.ref b), some (.ref a), z]) ⟨Gr.refl _ _, _, rfl⟩ (fun i σ' H2 hi p => ?_) (fun σ' H2 p => ?_)
          · obtain ⟨g2, z, rfl⟩ := p
            have i1 : i < xs.length := by omega
            have i2 : i < ys.length := by omega
            have e1 := List.getElem?_eq_getElem i1
            have e2 := List.getElem?_eq_getElem i2
            walk_at "go"
            refine w_ix (.inl (g2.sqL hs2)) (by omega) (by rw [Int.toNat_natCast]; exact e2) ?_
            walk_at "go"
            refine w_ix (.inl (g2.sqL hs)) (by omega) (by rw [Int.toNat_natCast]; exact e1) ?_
            walk_at "go"
            obtain ⟨d1, f1, x1⟩ := dpAll_get ha e1
            obtain ⟨d2, f2, x2⟩ := dpAll_get ha2 e2
            rw [f1] at f2
            cases f2
            have hm := List.mem_of_getElem? f1
            refine ⟨_, _, d1, rfl, hf d1 hm, hsh d1 hm, g2.dp x2, g2.dp x1, fun H4 g4 => ?_⟩
            walk_at "go"
            exact ⟨g2.trans g4, _, rfl⟩
          · obtain ⟨g2, z, rfl⟩ := p
            walk_at "go"
            exact q H2 g2
  | tup hs ha =>
    rename_i a xs ds
    cases hv with
    | tup hs2 ha2 =>
      rename_i b ys
      cases hf with
      | tup hf =>
        cases hsh with
        | tup hl hsh =>
          rename_i m
          have l1 := dpAll_len ha
          have l2 := dpAll_len ha2
          refine isi_T hs (b := false) (by decide +kernel) ?_
          walk_at "go"
          refine isi_T hs (b := false) (by decide +kernel) ?_
          walk_at "go"
          refine isi_T hs (b := false) (by decide +kernel) ?_
          walk_at "go"
          refine isi_T hs (b := false) (by decide +kernel) ?_
          walk_at "go"
          refine isi_T hs (b := true) (by decide +kernel) ?_
          walk_at "go"
          refine isi_T hs2 (b := false) (by decide +kernel) ?_
          walk_at "go"
          refine isi_T hs (b := false) (by decide +kernel) ?_
          walk_at "go"
          refine isi_T hs2 (b := true) (by decide +kernel) ?_
          walk_at "go"
          refine isi_T hs (b := true) (by decide +kernel) ?_
          walk_at "go"
          refine w_len (.inr hs2) ?_
          walk_at "go"
          refine w_len (.inr hs) ?_
          walk_at "go"
          refine w_ndec (fun e => by omega) (fun _ => ?_)
          walk_at "go"
          refine w_len (.inr hs) ?_
          walk_at "go"
          refine fr_R1 (by omega) (by omega) (fun i σ H' => Gr T H H' ∧ ∃ z, σ = [some (.ref b), some (.ref a), z]) ⟨Gr.refl _ _, _, rfl⟩ (fun i σ' H2 hi p => ?_) (fun σ' H2 p => ?_)
          · obtain ⟨g2, z, rfl⟩ := p
            have i1 : i < xs.length := by omega
            have i2 : i < ys.length := by omega
            have e1 := List.getElem?_eq_getElem i1
            have e2 := List.getElem?_eq_getElem i2
            walk_at "go"
            refine w_ix (.inr (g2.sqT hs2)) (by omega) (by rw [Int.toNat_natCast]; exact e2) ?_
            walk_at "go"
            refine w_ix (.inr (g2.sqT hs)) (by omega) (by rw [Int.toNat_natCast]; exact e1) ?_
            walk_at "go"
            obtain ⟨d1, f1, x1⟩ := dpAll_get ha e1
            obtain ⟨d2, f2, x2⟩ := dpAll_get ha2 e2
            rw [f1] at f2
            cases f2
            have hm := List.mem_of_getElem? f1
            refine ⟨_, _, d1, rfl, hf d1 hm, hsh d1 hm, g2.dp x2, g2.dp x1, fun H4 g4 => ?_⟩
            walk_at "go"
            exact ⟨g2.trans g4, _, rfl⟩
          · obtain ⟨g2, z, rfl⟩ := p
            walk_at "go"
            exact q H2 g2

theorem rd_law_thing : ∀ vs H Q (E : XK), spThing K T vs H Q E → t__law_thing K (spPick K) (E_ Q) (start ["jar"] vs) H := by
  intro vs H Q E h
  obtain ⟨J, rfl, hj, q⟩ := h
  unfold t__law_thing
  walk_at "go"
  intro p1 H1 n1 g1 h1
  walk_at "go"
  intro p2 H2 n2 g2 h2
  walk_at "go"
  refine w_I ⟨by decide, by decide, by decide⟩ ?_
  walk_at "go"
  intro m H3 n3 g3 h3
  have gg : Gr T H H3 := ((g1 T).trans (g2 T)).trans (g3 T)
  refine ⟨J, m, _, rfl, gg.jar hj, sqA_of h3, Nat.zero_lt_succ _, Nat.le_of_ble_eq_true rfl, fun x hx => ?_⟩
  have t1 : SqT K H3 p1 [.int 1, .int 2] := sqT_of (((g2 T).trans (g3 T)).tup h1)
  have t2 : SqT K H3 p2 [] := sqT_of ((g3 T).tup h2)
  simp only [List.mem_cons, List.not_mem_nil, or_false] at hx
  rcases hx with rfl | rfl | rfl | rfl | rfl | rfl | rfl | rfl | rfl | rfl | rfl | rfl
  · exact q _ .none H3 gg .non .non .non
  · exact q _ (.bool true) H3 gg (.bl _) (.bl _) (.bl _)
  · exact q _ (.int _) H3 gg (.int _) (.int _) (.int _)
  · exact q _ (.int _) H3 gg (.int _) (.int _) (.int _)
  · exact q _ (.int _) H3 gg (.int _) (.int _) (.int _)
  · exact q _ (.str _) H3 gg (.str _) (.str _) (.str _)
  · exact q _ (.str _) H3 gg (.str _) (.str _) (.str _)
  · exact q _ (.tuple [.int 1, .int 2]) H3 gg (.tup t1 (.cons (.int _) (.cons (.int _) .nil))) (.tup (by
      intro d hd
      simp only [List.mem_cons, List.not_mem_nil, or_false] at hd
      rcases hd with rfl | rfl <;> exact .int _)) (.tup (by decide) (by
      intro d hd
      simp only [List.mem_cons, List.not_mem_nil, or_false] at hd
      rcases hd with rfl | rfl <;> exact .int _))
  · exact q _ (.tuple []) H3 gg (.tup t2 .nil) (.tup (by intro d hd; cases hd)) (.tup (by decide) (by intro d hd; cases hd))
  · exact q _ (.int _) H3 gg (.int _) (.int _) (.int _)
  · exact q _ (.str _) H3 gg (.str _) (.str _) (.str _)
  · exact q _ (.bool false) H3 gg (.bl _) (.bl _) (.bl _)
end K00
end
section
set_option Elab.async false
set_option linter.all false
set_option maxRecDepth 100000
set_option maxHeartbeats 4000000
namespace K00
open PySem PySem.Spec PyProof.Rows L2 LamX U Evl TL L2H HotX LHot LX LV NdefX LW
/-! ### steps, by program -/
local macro_rules | `(tactic| walk_at "kp") => `(tactic| first
  | assumption
  | exact sqA_of (by assumption)
  | exact sqB_of (by assumption)
  | exact sqL_of (by assumption)
  | exact sqT_of (by assumption)
  | exact Or.inl (by assumption)
  | exact Or.inr (by assumption)
  | exact Gr.refl _ _
  | exact GrA.gr (by assumption)
  | (apply Gr.trans ?_ (by first | assumption | exact GrA.gr (by assumption)); walk_at "kp")
  | (apply Gr.xd; (first | assumption | exact GrA.gr (T := []) (by assumption)); walk_at "kp")
  | (apply Gr.sq; (first | assumption | exact GrA.gr (T := []) (by assumption)); walk_at "kp")
  | (apply Gr.sqL; (first | assumption | exact GrA.gr (T := []) (by assumption)); walk_at "kp")
  | (apply Gr.sqT; (first | assumption | exact GrA.gr (T := []) (by assumption)); walk_at "kp")
  | (apply Gr.lst; (first | assumption | exact GrA.gr (T := []) (by assumption)); walk_at "kp")
  | (apply Gr.tup; (first | assumption | exact GrA.gr (T := []) (by assumption)); walk_at "kp"))
local macro_rules | `(tactic| walk_at "s") => `(tactic| first
  | with_reducible first
    | refine w_seq ?_ | refine w_asg ?_ | refine w_gname ?_ | refine w_if ?_ | refine w_ret ?_ | refine w_next ?_ | refine w_drop ?_ | refine w_retN ?_ | refine w_brk ?_ | refine w_cont ?_ | refine w_gsub ?_
    | refine w_op ?_ | refine w_c ?_ | refine w_nil ?_ | refine w_cons ?_ | refine w_cb ?_ | refine w_un ?_
    | refine w_I0 ?_ | refine w_U ?_ | refine w_add ?_ | refine w_test ?_ | refine w_tB ?_ | refine w_tr ?_ | refine w_exn ?_ | refine w_trn ?_ | refine w_and ?_ | refine w_or ?_ | refine w_not ?_ | refine w_andV ?_ | refine w_orV ?_ | refine w_notV ?_ | refine w_ifE ?_
    | refine w_eqI ?_ | refine w_neI ?_ | refine w_eqS ?_ | refine w_neS ?_ | refine w_eqB ?_ | refine w_neB ?_ | refine w_isNo ?_ | refine w_notN ?_
    | refine w_call0 ?_ | refine w_tupK ?_ | refine w_lstK ?_ | refine w_bm ?_ | refine w_nop ?_ | refine w_part ?_ | refine w_exi ?_ | refine w_sl ?_
    | refine w_lcS ?_ | refine w_lcR1 ?_ | refine w_lcR2 ?_ | refine w_lcE ?_ | refine w_frS ?_ | refine w_frR1 ?_ | refine w_frR2 ?_ | refine w_frE ?_ | refine w_frT ?_
    | refine w_tYes ?_ | refine w_lcH ?_ | refine w_callE ?_ | refine w_iteD ?_ | refine w_iteND ?_ | refine w_raise ?_ | refine raK1 ?_ | refine raK2 ?_ | refine w_iteNT ?_ | refine w_iteNF ?_ | refine w_ckw ?_ | refine w_callN ?_ | refine w_m1 ?_ | refine w_yes1 ?_ | refine w_iteT ?_ | refine w_iteF ?_ | refine w_abs ?_ | refine w_max2 ?_ | refine w_max3 ?_ | refine w_min2 ?_ | refine w_intI ?_
  | (with_reducible apply w_var; with_unfolding_all rfl)
  | (with_reducible apply w_lenI; walk_at "kp")
  | (with_reducible apply w_len; walk_at "kp")
  | (with_reducible apply w_sum; walk_at "kp")
  | (with_reducible refine lstK ?_ ?_; exact Nat.le_of_ble_eq_true rfl)
  | (with_reducible refine tupK ?_ ?_; exact Nat.le_of_ble_eq_true rfl)
  | (with_reducible apply w_list; walk_at "kp")
  | (with_reducible apply w_tuple; walk_at "kp")
  | (with_reducible apply w_slI; walk_at "kp")
  | (with_reducible apply w_inI; walk_at "kp")
  | (with_reducible apply w_notInI; walk_at "kp"))
local macro_rules | `(tactic| walk_at "go") => `(tactic| repeat' (walk_at "s"))
variable {K : PySem.W.Frag} {T : List (Addr × Str)}
def words : List Str := ["BadNumber", "BadSum", "BadQuotient", "BadLandscape", "BadWell", "BadWall", "BadShape", "BadRoll", "BadOperator", "BadSymbol", "BadStep", "BadPaper", "BadName", "BadScript", "Barred", "Unlike", "HasResidue", "NotKept", "TooMany", "NoSuch", "Ended"]
/-- the classes that are asked, and their marks -/
def mks (K : PySem.W.Frag) : List (Str × V × Value) := ((words ++ (["Refused"] : List Str)).map fun c => (c, V.ref (He.ga K c), Value.ref (He.ga K c))) ++ ([("ValueError", V.ty "ValueError", Value.type "ValueError"), ("LookupError", V.ty "LookupError", Value.type "LookupError"), ("RuntimeError", V.ty "RuntimeError", Value.type "RuntimeError")] : List (Str × V × Value))
def mkNames : List Str := words ++ (["Refused", "ValueError", "LookupError", "RuntimeError"] : List Str)
theorem mks_names : (mks K).map (·.1) = mkNames := by
  unfold mks mkNames
  rw [List.map_append, List.map_map]
  rw [show ((fun x : Str × V × Value => x.1) ∘ fun c => (c, V.ref (He.ga K c), Value.ref (He.ga K c))) = id from rfl, List.map_id]
  rfl
def overOf (word : Str) : List Str := if word = "NoSuch" then ["LookupError"] else if word = "Ended" then ["RuntimeError"] else ["Refused", "ValueError"]
def bitOf (word c : Str) : Bool := decide (c = word) || decide (c ∈ overOf word)
theorem tags_of : ∀ word ∈ words, ((mkNames.map fun c => (c, bitOf word c)).filter fun q => q.2).map (fun q => V.str q.1) = (word :: overOf word).map V.str := by
  have h : (words.all fun word => decide (((mkNames.map fun c => (c, bitOf word c)).filter fun q => q.2).map (fun q => q.1) = word :: overOf word)) = true := by decide +kernel
  intro word hw
  have := of_decide_eq_true (List.all_eq_true.mp h word hw)
  rw [← this, List.map_map]
  rfl
theorem cls_of : ∀ m ∈ mks K, ClsV m.2.1 m.2.2 := by
  intro m hm
  unfold mks at hm
  rcases List.mem_append.mp hm with h | h
  · obtain ⟨c, _, rfl⟩ := List.mem_map.mp h
    exact .own _
  · simp only [List.mem_cons, List.not_mem_nil, or_false] at h
    rcases h with rfl | rfl | rfl <;> exact .ty _
/-- what the written part says of the class D, called word -/
structure KindC (K : PySem.W.Frag) (D : Addr) (word : Str) : Prop where
  mem : word ∈ words
  bits : ∀ m ∈ mks K, PySem.W.kitOne K (.ref D) m.2.2 = some (bitOf word m.1)
def tMarkG (r : List V → Hp → VK → Prop) (m : Str × V × Value) : TE := tTup (tCons (tC (.str m.1)) (tCons (tCB r (tCons (tVar 0) (tCons (tC m.2.1) tNil))) tNil))
def tMarksG (r : List V → Hp → VK → Prop) : List (Str × V × Value) → TA
  | [] => tNil
  | m :: l => tCons (tMarkG r m) (tMarksG r l)
theorem w_marksG {r : List V → Hp → VK → Prop} {P : Hp → Prop} {x : V} {bit : Str → Bool} {σ : L2.St} (h0 : σ[0]? = some (some x)) (hP : ∀ H H', GrA H H' → P H → P H') :
    ∀ (ms : List (Str × V × Value)) (H : Hp) (QA : List V → Hp → Prop), (∀ m ∈ ms, ∀ H Q, P H → Q (.bl (bit m.1)) H → r [x, m.2.1] H Q) → P H → (∀ xs H', Gr T H H' → SbAll K H' xs (ms.map fun m => (m.1, bit m.1)) → QA xs H') → tMarksG r ms σ H QA
  | [], H, QA, _, _, q => q [] H (Gr.refl _ _) .nil
  | m :: l, H, QA, hr, hp, q => by
    show tCons (tMarkG r m) (tMarksG r l) σ H QA
    refine w_cons ?_
    show tTup _ σ H _
    refine w_tupK (w_cons (w_c (w_cons (w_cb (w_cons (w_var h0 (w_cons (w_c (w_nil ?_)))))))))
    refine hr m (List.mem_cons_self ..) H _ hp (w_nil (tupK (Nat.le_of_ble_eq_true rfl) fun p H' np g h => ?_))
    refine w_marksG h0 hP l H' _ (fun x hx => hr x (List.mem_cons_of_mem _ hx)) (hP _ _ g hp) fun xs H2 g2 hs => q _ H2 ((g T).trans g2) (.cons ⟨p, rfl, g2.sqT (sqT_of h)⟩ hs)
theorem lc_SBs {H1 : Hp} {σ : L2.St} {g : TG} {tt : TT} {te : TE} {vs : List Nat} {Q : VK} {a : Addr} (h : LcH K g tt te vs σ Q (.ref a) H1) : LcS K g tt te vs σ Q (.ref a) H1 := by
  obtain ⟨b, e, ⟨xs, hs⟩, l⟩ := h
  exact ⟨b, e, .inl ⟨xs, hs, l⟩⟩
/-- the fields that an error's word asks for -/
def fieldsOf (tag : Str) : List Str :=
  if inV (.str tag) [.str "BadName", .str "NoSuch"] = true then ["name"] else if tag = "BadScript" then ["line"] else if cutS tag none (some 3) = "Bad" then ["at"] else if tag = "Barred" then ["kind"]
  else if inV (.str tag) [.str "Unlike", .str "Ended"] = true then ["what"] else if inV (.str tag) [.str "HasResidue", .str "NotKept"] = true then ["wall"] else if tag = "TooMany" then ["what", "count"] else []
/-- the values of fields -/
inductive Flds (K : PySem.W.Frag) (C : Addr) (fs : List (Str × V)) : List Str → List V → Prop
  | nil : Flds K C fs [] []
  | cons {f : Str} {v : V} {r : List Str} {vs : List V} (no : PySem.W.findIn K (.ref C) f = some none) (l : fs.lookup f = some v) (t : Flds K C fs r vs) : Flds K C fs (f :: r) (v :: vs)
theorem Gr.isx {H H' : Hp} {x : V} {C : Addr} {fs : List (Str × V)} (g : Gr T H H') (h : IsX K H x C fs) : IsX K H' x C fs := by
  obtain ⟨a, d, e, O, h1, h2⟩ := h
  exact ⟨a, d, e, O, g.keep _ _ h1 fun ps z => exo_tbl z, g.keep _ _ h2 fun ps z => by unfold exd at z; cases z⟩
theorem w_slV {H : Hp} {p : Addr} {xs : List V} {lo hi : Option Int} {Q : VK} (h : SqL K H p xs) (q : ∀ l H', GrA H H' → H' l = some (.lst (cutV xs lo hi)) → Q (.ref l) H') : rSl K (.ref p) lo hi H Q := .inl ⟨p, xs, rfl, h, fun l hl => q l _ (.new hl) upd_same⟩
theorem w_inS {H : Hp} {p : Addr} {x : Str} {ws : List V} {Q : VK} (h : SqL K H p ws) (hf : ws.all flatV = true) (q : Q (.bl (inV (.str x) ws)) H) : uIn K false (.str x) (.ref p) H Q := ⟨p, ws, rfl, .inl h, rfl, hf, by rw [if_neg Bool.false_ne_true]; exact q⟩
theorem w_eqS2 {H : Hp} {p q : Addr} {xs ys : List Str} {Q : VK} (h1 : SqL K H p (xs.map V.str)) (h2 : SqL K H q (ys.map V.str)) (e : xs = ys) (o : ∀ n ∈ xs, Ok n) (hv : PyData.eqv (.list (xs.map PyData.str)) (.list (xs.map PyData.str)) = true) (k : Q (.bl true) H) : uEq K (.ref p) (.ref q) H Q := by
  subst e
  exact ⟨_, _, .lst h1 (dp_strs _), .lst h2 (dp_strs _), shaped_S _ o, shaped_S _ o, by rw [hv]; exact k⟩
theorem words_short : ∀ word ∈ words, word.length ≤ 100 ∧ Ok word := by
  have h : (words.all fun w => decide (w.length ≤ 100) && (tl w).all fun c => decide (c < 1114112)) = true := by decide +kernel
  intro word hw
  obtain ⟨h1, h2⟩ := Bool.and_eq_true_iff.mp (List.all_eq_true.mp h word hw)
  exact ⟨of_decide_eq_true h1, fun c hc => of_decide_eq_true (List.all_eq_true.mp h2 c hc)⟩
theorem over_eqv (word : Str) : PyData.eqv (.list ((overOf word).map PyData.str)) (.list ((overOf word).map PyData.str)) = true ∧ ∀ n ∈ overOf word, Ok n := by
  have ok : ∀ s : Str, ((tl s).all fun c => decide (c < 1114112)) = true → Ok s := fun s h c hc => of_decide_eq_true (List.all_eq_true.mp h c hc)
  unfold overOf
  split
  · exact ⟨by decide +kernel, fun n hn => ok n (by have : n = "LookupError" := by simpa using hn
                                                   rw [this]; decide +kernel)⟩
  · split
    · exact ⟨by decide +kernel, fun n hn => ok n (by have : n = "RuntimeError" := by simpa using hn
                                                     rw [this]; decide +kernel)⟩
    · refine ⟨by decide +kernel, fun n hn => ok n ?_⟩
      simp only [List.mem_cons, List.not_mem_nil, or_false] at hn
      rcases hn with rfl | rfl <;> decide +kernel
def spClassesV (K : PySem.W.Frag) (T : List (Addr × Str)) : Sp := fun vs H Q _ => ∃ x C fs word, vs = [x] ∧ IsX K H x C fs ∧ KindC K C word ∧ ∀ l H', Gr T H H' → H' l = some (.lst ((word :: overOf word).map V.str)) → Q (.ref l) H'
theorem rd_law_classesV : ∀ vs H Q (E : XK), spClassesV K T vs H Q E → t__law_classesV K (E_ Q) (start ["e", "marks", "tag", "yes"] vs) H := by
  intro vs H Q E h
  obtain ⟨x, C, fs, word, rfl, hx, M, q⟩ := h
  show (tSeq (tAsg (tLst (tMarksG (rIsV K) (mks K))) (gName 1)) (tRet (tLc (iSeq K (tVar 1)) (gTup K 2 (gCons (gName 2) (gCons (gName 3) gNil))) (tTr K (tVar 3)) (tVar 2) [2, 3]))) (E_ Q) [some x, none, none, none] H
  refine w_seq (w_asg (w_lstK (w_marksG (K := K) (T := T) (P := fun H => IsX K H x C fs) (bit := bitOf word) rfl (fun H H' g h => Gr.isx (g T) h) (mks K) H _ (fun m hm H1 Q1 hx1 q1 => ⟨x, m.2.1, C, fs, m.2.2, _, rfl, hx1, cls_of m hm, M.bits m hm, q1⟩) hx fun xs HA gA hs => lstK ?_ fun l HL nL gL hL => ?_)))
  · have : xs.length = ((mks K).map fun m => (m.1, bitOf word m.1)).length := Paired.length hs
    rw [this]
    exact Nat.le_of_ble_eq_true rfl
  have hs2 := Gr.sbs (gL T) hs
  refine w_gname (w_ret (w_lcS (w_var rfl (lc_SBs ?_))))
  refine lc_SB (T := T) (sqL_of hL) hs2 (fun q => q.2) (fun q => .str q.1) (Nat.le_of_ble_eq_true rfl) (fun _ _ => rfl) (fun q hq H2 g2 Yes No hy hn => ?_) (fun D2 H2 g2 nD h2 => ?_)
  · walk_at "go"
    refine w_bool (fun e => ?_) (fun e => ?_)
    · walk_at "go"
      exact hy e _ (Gr.refl _ _)
    · exact hn e _ (Gr.refl _ _)
  · refine q D2 H2 ((gA.trans (gL T)).trans g2) ?_
    rw [h2]
    have e1 : ((mks K).map fun m => (m.1, bitOf word m.1)) = mkNames.map fun c => (c, bitOf word c) := by rw [← mks_names (K := K), List.map_map]; rfl
    rw [e1, tags_of word M.mem]
def spFieldsV (K : PySem.W.Frag) (T : List (Addr × Str)) : Sp := fun vs H Q _ => ∃ x C fs tag vals, vs = [.str tag, x] ∧ IsX K H x C fs ∧ tag.length ≤ 100 ∧ fieldsOf tag ≠ [] ∧ Flds K C fs (fieldsOf tag) vals ∧ ∀ l H', Gr T H H' → H' l = some (.lst vals) → Q (.ref l) H'
theorem w_vF1 {x : V} {C : Addr} {fs : List (Str × V)} {f : Str} {v : V} {σ : L2.St} {i : Nat} {H : Hp} {Q : VK} (h0 : σ[i]? = some (some x)) (hx : IsX K H x C fs) (no : PySem.W.findIn K (.ref C) f = some none) (l : fs.lookup f = some v) (q : Q v H) : tVF K f (tVar i) σ H Q := ⟨x, h0, C, fs, v, hx, no, l, q⟩
theorem rd_law_fieldsV : ∀ vs H Q (E : XK), spFieldsV K T vs H Q E → t__law_fieldsV K (E_ Q) (start ["tag", "e"] vs) H := by
  intro vs H Q E h
  obtain ⟨x, C, fs, tag, vals, rfl, hx, hl, hne, hf, q⟩ := h
  unfold t__law_fieldsV
  unfold fieldsOf at hf hne
  have g0 : Gr T H H := Gr.refl _ _
  walk_at "go"
  intro p1 H1 n1 g1 h1
  walk_at "go"
  refine w_inS (sqL_of h1) rfl ?_
  walk_at "go"
  refine w_bool (fun e1 => ?_) (fun e1 => ?_)
  · rw [if_pos e1] at hf
    walk_at "go"
    cases hf with
    | cons no l t =>
      cases t
      refine w_vF1 rfl (Gr.isx (g1 T) hx) no l ?_
      walk_at "go"
      intro l9 H9 n9 g9 h9
      exact q l9 H9 ((g1 T).trans (g9 T)) h9
  rw [if_neg (by rw [e1]; decide)] at hf hne
  walk_at "go"
  refine w_dec (fun e2 => ?_) (fun e2 => ?_)
  · rw [if_pos e2] at hf
    walk_at "go"
    cases hf with
    | cons no l t =>
      cases t
      refine w_vF1 rfl (Gr.isx (g1 T) hx) no l ?_
      walk_at "go"
      intro l9 H9 n9 g9 h9
      exact q l9 H9 ((g1 T).trans (g9 T)) h9
  rw [if_neg e2] at hf hne
  walk_at "go"
  refine w_slZ (by omega) ?_
  walk_at "go"
  refine w_dec (fun e3 => ?_) (fun e3 => ?_)
  · rw [if_pos e3] at hf
    walk_at "go"
    cases hf with
    | cons no l t =>
      cases t
      refine w_vF1 rfl (Gr.isx (g1 T) hx) no l ?_
      walk_at "go"
      intro l9 H9 n9 g9 h9
      exact q l9 H9 ((g1 T).trans (g9 T)) h9
  rw [if_neg e3] at hf hne
  walk_at "go"
  refine w_dec (fun e4 => ?_) (fun e4 => ?_)
  · rw [if_pos e4] at hf
    walk_at "go"
    cases hf with
    | cons no l t =>
      cases t
      refine w_vF1 rfl (Gr.isx (g1 T) hx) no l ?_
      walk_at "go"
      intro l9 H9 n9 g9 h9
      exact q l9 H9 ((g1 T).trans (g9 T)) h9
  rw [if_neg e4] at hf hne
  walk_at "go"
  intro p2 H2 n2 g2 h2
  have g12 : Gr T H H2 := (g1 T).trans (g2 T)
  walk_at "go"
  refine w_inS (sqL_of h2) rfl ?_
  walk_at "go"
  refine w_bool (fun e5 => ?_) (fun e5 => ?_)
  · rw [if_pos e5] at hf
    walk_at "go"
    cases hf with
    | cons no l t =>
      cases t
      refine w_vF1 rfl (Gr.isx (g12) hx) no l ?_
      walk_at "go"
      intro l9 H9 n9 g9 h9
      exact q l9 H9 ((g12).trans (g9 T)) h9
  rw [if_neg (by rw [e5]; decide)] at hf hne
  walk_at "go"
  intro p3 H3 n3 g3 h3
  have g13 : Gr T H H3 := g12.trans (g3 T)
  walk_at "go"
  refine w_inS (sqL_of h3) rfl ?_
  walk_at "go"
  refine w_bool (fun e6 => ?_) (fun e6 => ?_)
  · rw [if_pos e6] at hf
    walk_at "go"
    cases hf with
    | cons no l t =>
      cases t
      refine w_vF1 rfl (Gr.isx (g13) hx) no l ?_
      walk_at "go"
      intro l9 H9 n9 g9 h9
      exact q l9 H9 ((g13).trans (g9 T)) h9
  rw [if_neg (by rw [e6]; decide)] at hf hne
  walk_at "go"
  refine w_dec (fun e7 => ?_) (fun e7 => ?_)
  · rw [if_pos e7] at hf
    walk_at "go"
    cases hf with
    | cons no l t =>
      cases t with
      | cons no2 l2 t =>
        cases t
        refine w_vF1 rfl (Gr.isx (g13) hx) no l ?_
        walk_at "go"
        refine w_vF1 rfl (Gr.isx (g13) hx) no2 l2 ?_
        walk_at "go"
        intro l9 H9 n9 g9 h9
        exact q l9 H9 (g13.trans (g9 T)) h9
  · rw [if_neg e7] at hne
    exact absurd rfl hne
def spPartsV (K : PySem.W.Frag) (T : List (Addr × Str)) : Sp := fun vs H Q _ => ∃ x C fs word vals, vs = [x] ∧ IsX K H x C fs ∧ KindC K C word ∧ fieldsOf word ≠ [] ∧ Flds K C fs (fieldsOf word) vals ∧ vals.length ≤ 10 ∧ ∀ l H', Gr T H H' → H' l = some (.lst (.str word :: vals)) → Q (.ref l) H'
theorem rd_law_parts_ofV : ∀ vs H Q (E : XK), spPartsV K T vs H Q E → t__law_parts_ofV K (spClassesV K T) (spFieldsV K T) (E_ Q) (start ["e", "tags", "tag", "over"] vs) H := by
  intro vs H Q E h
  obtain ⟨x, C, fs, word, vals, rfl, hx, M, hne, hf, hlv, q⟩ := h
  unfold t__law_parts_ofV
  obtain ⟨wl, _⟩ := words_short word M.mem
  obtain ⟨ov, oo⟩ := over_eqv word
  have fin : ∀ (w ovr : Addr) (H3 : Hp), Gr T H H3 → SqL K H3 w ((word :: overOf word).map V.str) → SqL K H3 ovr ((overOf word).map V.str) → (tRet (tIf (tTest (tOp (uEq K) (tSl (rSl K) (tVar 1) (tPart (tC (.int 1))) tNoPart) (tVar 3))) (tOp (uAdd K) (tLst (tCons (tVar 2) tNil)) (tCall (spFieldsV K T) [] E0 (tCons (tVar 2) (tCons (tVar 0) tNil)))) (tLst (tCons (tC (.str "of other classes")) tNil)))) (E_ Q) [some x, some (.ref w), some (.str word), some (.ref ovr)] H3 := by
    intro w ovr H3 g3 s1 s2
    have s0 : Sq K H3 w (.str word :: (overOf word).map V.str) := .inl s1
    refine w_ret (w_ifE (w_test (w_op (w_sl (w_var rfl (w_part (w_c (w_exi (w_nop ?_)))))))))
    have e1 : cutV (V.str word :: (overOf word).map V.str) (some 1) none = (overOf word).map V.str := by
      unfold overOf
      split
      · rfl
      · split <;> rfl
    refine w_slV s1 fun t H4 g4 h4 => ?_
    rw [show cutV ((word :: overOf word).map V.str) (some 1) none = (overOf word).map V.str from e1] at h4
    refine w_var rfl ?_
    refine w_eqS2 (sqL_of h4) ((g4 T).sqL s2) rfl oo ov ⟨_, rfl, ?_⟩
    walk_at "go"
    intro b H6 n6 g6 h6
    have g6a : Gr T H H6 := (g3.trans (g4 T)).trans (g6 T)
    walk_at "go"
    refine ⟨x, C, fs, word, vals, rfl, Gr.isx (g6a) hx, wl, hne, hf, fun fl H5 g5 h5 => ?_⟩
    refine w_cat (g5.lst h6) h5 (by simp; omega) fun l9 H9 n9 g9 h9 => ?_
    exact q l9 H9 ((g6a.trans g5).trans (g9 T)) h9
  walk_at "go"
  refine ⟨x, C, fs, word, rfl, hx, M, fun w H1 g1 h1 => ?_⟩
  walk_at "go"
  refine w_ix (sqA_of h1) (by decide) rfl ?_
  walk_at "go"
  refine w_dec (fun e => ?_) (fun e => ?_)
  · have eo : overOf word = (["LookupError"] : List Str) := by unfold overOf; rw [if_pos e]
    walk_at "go"
    intro o H2 n2 g2 h2
    refine fin w o H2 (g1.trans (g2 T)) ((g2 T).sqL (sqL_of h1)) ?_
    rw [eo]
    exact sqL_of h2
  walk_at "go"
  refine w_dec (fun e2 => ?_) (fun e2 => ?_)
  · have eo : overOf word = (["RuntimeError"] : List Str) := by unfold overOf; rw [if_neg e, if_pos e2]
    walk_at "go"
    intro o H2 n2 g2 h2
    refine fin w o H2 (g1.trans (g2 T)) ((g2 T).sqL (sqL_of h1)) ?_
    rw [eo]
    exact sqL_of h2
  · have eo : overOf word = (["Refused", "ValueError"] : List Str) := by unfold overOf; rw [if_neg e, if_neg e2]
    walk_at "go"
    intro o H2 n2 g2 h2
    refine fin w o H2 (g1.trans (g2 T)) ((g2 T).sqL (sqL_of h1)) ?_
    rw [eo]
    exact sqL_of h2
end K00
end
section
set_option Elab.async false
set_option linter.all false
set_option maxRecDepth 100000
set_option maxHeartbeats 4000000
namespace K00
open PySem PySem.Spec PyProof.Rows L2 LamX U Evl TL L2H HotX LHot LX LV NdefX LW
/-! ### steps, by program -/
local macro_rules | `(tactic| walk_at "kp") => `(tactic| first
  | assumption
  | exact sqA_of (by assumption)
  | exact sqB_of (by assumption)
  | exact sqL_of (by assumption)
  | exact sqT_of (by assumption)
  | exact Or.inl (by assumption)
  | exact Or.inr (by assumption)
  | exact Gr.refl _ _
  | exact GrA.gr (by assumption)
  | (apply Gr.trans ?_ (by first | assumption | exact GrA.gr (by assumption)); walk_at "kp")
  | (apply Gr.xd; (first | assumption | exact GrA.gr (T := []) (by assumption)); walk_at "kp")
  | (apply Gr.sq; (first | assumption | exact GrA.gr (T := []) (by assumption)); walk_at "kp")
  | (apply Gr.sqL; (first | assumption | exact GrA.gr (T := []) (by assumption)); walk_at "kp")
  | (apply Gr.sqT; (first | assumption | exact GrA.gr (T := []) (by assumption)); walk_at "kp")
  | (apply Gr.lst; (first | assumption | exact GrA.gr (T := []) (by assumption)); walk_at "kp")
  | (apply Gr.tup; (first | assumption | exact GrA.gr (T := []) (by assumption)); walk_at "kp"))
local macro_rules | `(tactic| walk_at "s") => `(tactic| first
  | with_reducible first
    | refine w_seq ?_ | refine w_asg ?_ | refine w_gname ?_ | refine w_if ?_ | refine w_ret ?_ | refine w_next ?_ | refine w_drop ?_ | refine w_retN ?_ | refine w_brk ?_ | refine w_cont ?_ | refine w_gsub ?_
    | refine w_op ?_ | refine w_c ?_ | refine w_nil ?_ | refine w_cons ?_ | refine w_cb ?_ | refine w_un ?_
    | refine w_I0 ?_ | refine w_U ?_ | refine w_add ?_ | refine w_test ?_ | refine w_tB ?_ | refine w_tr ?_ | refine w_exn ?_ | refine w_trn ?_ | refine w_and ?_ | refine w_or ?_ | refine w_not ?_ | refine w_andV ?_ | refine w_orV ?_ | refine w_notV ?_ | refine w_ifE ?_
    | refine w_eqI ?_ | refine w_neI ?_ | refine w_eqS ?_ | refine w_neS ?_ | refine w_eqB ?_ | refine w_neB ?_ | refine w_isNo ?_ | refine w_notN ?_
    | refine w_call0 ?_ | refine w_tupK ?_ | refine w_lstK ?_ | refine w_bm ?_ | refine w_nop ?_ | refine w_part ?_ | refine w_exi ?_ | refine w_sl ?_
    | refine w_lcS ?_ | refine w_lcR1 ?_ | refine w_lcR2 ?_ | refine w_lcE ?_ | refine w_frS ?_ | refine w_frR1 ?_ | refine w_frR2 ?_ | refine w_frE ?_ | refine w_frT ?_
    | refine w_tYes ?_ | refine w_lcH ?_ | refine w_callE ?_ | refine w_iteD ?_ | refine w_iteND ?_ | refine w_raise ?_ | refine raK1 ?_ | refine raK2 ?_ | refine w_iteNT ?_ | refine w_iteNF ?_ | refine w_ckw ?_ | refine w_callN ?_ | refine w_m1 ?_ | refine w_yes1 ?_ | refine w_iteT ?_ | refine w_iteF ?_ | refine w_abs ?_ | refine w_max2 ?_ | refine w_max3 ?_ | refine w_min2 ?_ | refine w_intI ?_
  | (with_reducible apply w_var; with_unfolding_all rfl)
  | (with_reducible apply w_lenI; walk_at "kp")
  | (with_reducible apply w_len; walk_at "kp")
  | (with_reducible apply w_sum; walk_at "kp")
  | (with_reducible refine lstK ?_ ?_; exact Nat.le_of_ble_eq_true rfl)
  | (with_reducible refine tupK ?_ ?_; exact Nat.le_of_ble_eq_true rfl)
  | (with_reducible apply w_list; walk_at "kp")
  | (with_reducible apply w_tuple; walk_at "kp")
  | (with_reducible apply w_slI; walk_at "kp")
  | (with_reducible apply w_inI; walk_at "kp")
  | (with_reducible apply w_notInI; walk_at "kp"))
local macro_rules | `(tactic| walk_at "go") => `(tactic| repeat' (walk_at "s"))
variable {K : PySem.W.Frag} {T : List (Addr × Str)}
def spClasses (K : PySem.W.Frag) (T : List (Addr × Str)) : SpE := fun a c d vs H Q _ => vs = [.ref a] ∧ ∃ D dd fs word, c = .ref D ∧ LE.Own K D ∧ d = some dd ∧ H dd = some (.xd fs) ∧ KindC K D word ∧ ∀ l H', Gr T H H' → H' l = some (.lst ((word :: overOf word).map V.str)) → Q (.ref l) H'
theorem rd_law_classes : ∀ a D d vs H Q (E : XK), spClasses K T a (.ref D) d vs H Q E → t__law_classes K D a d (E_ Q) (start ["e", "marks", "tag", "yes"] vs) H := by
  intro a D d vs H Q E h
  obtain ⟨rfl, D', dd, fs, word, e, O, rfl, hx, M, q⟩ := h
  cases e
  show (tSeq (tAsg (tLst (tMarksG (rIsX K D a (some dd)) (mks K))) (gName 1)) (tRet (tLc (iList K (tVar 1)) (gTup K 2 (gCons (gName 2) (gCons (gName 3) gNil))) (tTr K (tVar 3)) (tVar 2) [2, 3]))) (E_ Q) [some (.ref a), none, none, none] H
  refine w_seq (w_asg (w_lstK (w_marksG (K := K) (T := T) (P := fun H => H dd = some (.xd fs)) (bit := bitOf word) rfl (fun H H' g h => (g T).xd h) (mks K) H _ (fun m hm H1 Q1 hx1 q1 => ⟨m.2.1, m.2.2, _, rfl, cls_of m hm, M.bits m hm, .inr ⟨dd, fs, rfl, hx1⟩, q1⟩) hx fun xs HA gA hs => lstK ?_ fun l HL nL gL hL => ?_)))
  · have : xs.length = ((mks K).map fun m => (m.1, bitOf word m.1)).length := Paired.length hs
    rw [this]
    exact Nat.le_of_ble_eq_true rfl
  have hs2 := Gr.sbs (gL T) hs
  refine w_gname (w_ret (w_lcH (w_var rfl ?_)))
  refine lc_SB (T := T) (sqL_of hL) hs2 (fun q => q.2) (fun q => .str q.1) (Nat.le_of_ble_eq_true rfl) (fun _ _ => rfl) (fun q hq H2 g2 Yes No hy hn => ?_) (fun D2 H2 g2 nD h2 => ?_)
  · walk_at "go"
    refine w_bool (fun e => ?_) (fun e => ?_)
    · walk_at "go"
      exact hy e _ (Gr.refl _ _)
    · exact hn e _ (Gr.refl _ _)
  · refine q D2 H2 ((gA.trans (gL T)).trans g2) ?_
    rw [h2]
    have e1 : ((mks K).map fun m => (m.1, bitOf word m.1)) = mkNames.map fun c => (c, bitOf word c) := by rw [← mks_names (K := K), List.map_map]; rfl
    rw [e1, tags_of word M.mem]
def spFields (K : PySem.W.Frag) (T : List (Addr × Str)) : SpE := fun a c d vs H Q _ => ∃ D dd fs tag vals, vs = [.str tag, .ref a] ∧ c = .ref D ∧ LE.Own K D ∧ d = some dd ∧ H dd = some (.xd fs) ∧ tag.length ≤ 100 ∧ fieldsOf tag ≠ [] ∧ Flds K D fs (fieldsOf tag) vals ∧ ∀ l H', Gr T H H' → H' l = some (.lst vals) → Q (.ref l) H'
theorem w_xG1 {a D dd : Addr} {fs : List (Str × V)} {f : Str} {v : V} {σ : L2.St} {i : Nat} {H : Hp} {Q : VK} (h0 : σ[i]? = some (some (.ref a))) (hx : H dd = some (.xd fs)) (no : PySem.W.findIn K (.ref D) f = some none) (l : fs.lookup f = some v) (q : Q v H) : tXG K D a (some dd) f (tVar i) σ H Q :=
  w_xG no ⟨_, h0, rfl, dd, fs, v, rfl, hx, l, q⟩
theorem rd_law_fields : ∀ a D d vs H Q (E : XK), spFields K T a (.ref D) d vs H Q E → t__law_fields K D a d (E_ Q) (start ["tag", "e"] vs) H := by
  intro a D d vs H Q E h
  obtain ⟨D', dd, fs, tag, vals, rfl, e, O, rfl, hx, hl, hne, hf, q⟩ := h
  cases e
  unfold t__law_fields
  unfold fieldsOf at hf hne
  have g0 : Gr T H H := Gr.refl _ _
  walk_at "go"
  intro p1 H1 n1 g1 h1
  walk_at "go"
  refine w_inS (sqL_of h1) rfl ?_
  walk_at "go"
  refine w_bool (fun e1 => ?_) (fun e1 => ?_)
  · rw [if_pos e1] at hf
    walk_at "go"
    cases hf with
    | cons no l t =>
      cases t
      refine w_xG1 rfl ((g1 T).xd hx) no l ?_
      walk_at "go"
      intro l9 H9 n9 g9 h9
      exact q l9 H9 ((g1 T).trans (g9 T)) h9
  rw [if_neg (by rw [e1]; decide)] at hf hne
  walk_at "go"
  refine w_dec (fun e2 => ?_) (fun e2 => ?_)
  · rw [if_pos e2] at hf
    walk_at "go"
    cases hf with
    | cons no l t =>
      cases t
      refine w_xG1 rfl ((g1 T).xd hx) no l ?_
      walk_at "go"
      intro l9 H9 n9 g9 h9
      exact q l9 H9 ((g1 T).trans (g9 T)) h9
  rw [if_neg e2] at hf hne
  walk_at "go"
  refine w_slZ (by omega) ?_
  walk_at "go"
  refine w_dec (fun e3 => ?_) (fun e3 => ?_)
  · rw [if_pos e3] at hf
    walk_at "go"
    cases hf with
    | cons no l t =>
      cases t
      refine w_xG1 rfl ((g1 T).xd hx) no l ?_
      walk_at "go"
      intro l9 H9 n9 g9 h9
      exact q l9 H9 ((g1 T).trans (g9 T)) h9
  rw [if_neg e3] at hf hne
  walk_at "go"
  refine w_dec (fun e4 => ?_) (fun e4 => ?_)
  · rw [if_pos e4] at hf
    walk_at "go"
    cases hf with
    | cons no l t =>
      cases t
      refine w_xG1 rfl ((g1 T).xd hx) no l ?_
      walk_at "go"
      intro l9 H9 n9 g9 h9
      exact q l9 H9 ((g1 T).trans (g9 T)) h9
  rw [if_neg e4] at hf hne
  walk_at "go"
  intro p2 H2 n2 g2 h2
  have g12 : Gr T H H2 := (g1 T).trans (g2 T)
  walk_at "go"
  refine w_inS (sqL_of h2) rfl ?_
  walk_at "go"
  refine w_bool (fun e5 => ?_) (fun e5 => ?_)
  · rw [if_pos e5] at hf
    walk_at "go"
    cases hf with
    | cons no l t =>
      cases t
      refine w_xG1 rfl ((g12).xd hx) no l ?_
      walk_at "go"
      intro l9 H9 n9 g9 h9
      exact q l9 H9 ((g12).trans (g9 T)) h9
  rw [if_neg (by rw [e5]; decide)] at hf hne
  walk_at "go"
  intro p3 H3 n3 g3 h3
  have g13 : Gr T H H3 := g12.trans (g3 T)
  walk_at "go"
  refine w_inS (sqL_of h3) rfl ?_
  walk_at "go"
  refine w_bool (fun e6 => ?_) (fun e6 => ?_)
  · rw [if_pos e6] at hf
    walk_at "go"
    cases hf with
    | cons no l t =>
      cases t
      refine w_xG1 rfl ((g13).xd hx) no l ?_
      walk_at "go"
      intro l9 H9 n9 g9 h9
      exact q l9 H9 ((g13).trans (g9 T)) h9
  rw [if_neg (by rw [e6]; decide)] at hf hne
  walk_at "go"
  refine w_dec (fun e7 => ?_) (fun e7 => ?_)
  · rw [if_pos e7] at hf
    walk_at "go"
    cases hf with
    | cons no l t =>
      cases t with
      | cons no2 l2 t =>
        cases t
        refine w_xG1 rfl ((g13).xd hx) no l ?_
        walk_at "go"
        refine w_xG1 rfl ((g13).xd hx) no2 l2 ?_
        walk_at "go"
        intro l9 H9 n9 g9 h9
        exact q l9 H9 (g13.trans (g9 T)) h9
  · rw [if_neg e7] at hne
    exact absurd rfl hne
def spParts (K : PySem.W.Frag) (T : List (Addr × Str)) : SpE := fun a c d vs H Q _ => vs = [.ref a] ∧ ∃ D dd fs word vals, c = .ref D ∧ LE.Own K D ∧ d = some dd ∧ H dd = some (.xd fs) ∧ KindC K D word ∧ fieldsOf word ≠ [] ∧ Flds K D fs (fieldsOf word) vals ∧ vals.length ≤ 10 ∧ ∀ l H', Gr T H H' → H' l = some (.lst (.str word :: vals)) → Q (.ref l) H'
theorem rd_law_parts_of : ∀ a D d vs H Q (E : XK), spParts K T a (.ref D) d vs H Q E → t__law_parts_of K D a d (spClasses K T) (spFields K T) (E_ Q) (start ["e", "tags", "tag", "over"] vs) H := by
  intro a D d vs H Q E h
  obtain ⟨rfl, D', dd, fs, word, vals, e, O, rfl, hx, M, hne, hf, hlv, q⟩ := h
  cases e
  unfold t__law_parts_of
  obtain ⟨wl, _⟩ := words_short word M.mem
  obtain ⟨ov, oo⟩ := over_eqv word
  have fin : ∀ (w ovr : Addr) (H3 : Hp), Gr T H H3 → SqL K H3 w ((word :: overOf word).map V.str) → SqL K H3 ovr ((overOf word).map V.str) → (tRet (tIf (tTest (tOp (uEq K) (tSl (rSl K) (tVar 1) (tPart (tC (.int 1))) tNoPart) (tVar 3))) (tOp (uAdd K) (tLst (tCons (tVar 2) tNil)) (tCallE (spFields K T) a (.ref D) (some dd) (tCons (tVar 2) (tCons (tVar 0) tNil)))) (tLst (tCons (tC (.str "of other classes")) tNil)))) (E_ Q) [some (.ref a), some (.ref w), some (.str word), some (.ref ovr)] H3 := by
    intro w ovr H3 g3 s1 s2
    have s0 : Sq K H3 w (.str word :: (overOf word).map V.str) := .inl s1
    refine w_ret (w_ifE (w_test (w_op (w_sl (w_var rfl (w_part (w_c (w_exi (w_nop ?_)))))))))
    have e1 : cutV (V.str word :: (overOf word).map V.str) (some 1) none = (overOf word).map V.str := by
      unfold overOf
      split
      · rfl
      · split <;> rfl
    refine w_slV s1 fun t H4 g4 h4 => ?_
    rw [show cutV ((word :: overOf word).map V.str) (some 1) none = (overOf word).map V.str from e1] at h4
    refine w_var rfl ?_
    refine w_eqS2 (sqL_of h4) ((g4 T).sqL s2) rfl oo ov ⟨_, rfl, ?_⟩
    walk_at "go"
    intro b H6 n6 g6 h6
    have g6a : Gr T H H6 := (g3.trans (g4 T)).trans (g6 T)
    walk_at "go"
    refine ⟨D, dd, fs, word, vals, rfl, rfl, O, rfl, (g6a).xd hx, wl, hne, hf, fun fl H5 g5 h5 => ?_⟩
    refine w_cat (g5.lst h6) h5 (by simp; omega) fun l9 H9 n9 g9 h9 => ?_
    exact q l9 H9 ((g6a.trans g5).trans (g9 T)) h9
  walk_at "go"
  refine ⟨rfl, D, dd, fs, word, rfl, O, rfl, hx, M, fun w H1 g1 h1 => ?_⟩
  walk_at "go"
  refine w_ix (sqA_of h1) (by decide) rfl ?_
  walk_at "go"
  refine w_dec (fun e => ?_) (fun e => ?_)
  · have eo : overOf word = (["LookupError"] : List Str) := by unfold overOf; rw [if_pos e]
    walk_at "go"
    intro o H2 n2 g2 h2
    refine fin w o H2 (g1.trans (g2 T)) ((g2 T).sqL (sqL_of h1)) ?_
    rw [eo]
    exact sqL_of h2
  walk_at "go"
  refine w_dec (fun e2 => ?_) (fun e2 => ?_)
  · have eo : overOf word = (["RuntimeError"] : List Str) := by unfold overOf; rw [if_neg e, if_pos e2]
    walk_at "go"
    intro o H2 n2 g2 h2
    refine fin w o H2 (g1.trans (g2 T)) ((g2 T).sqL (sqL_of h1)) ?_
    rw [eo]
    exact sqL_of h2
  · have eo : overOf word = (["Refused", "ValueError"] : List Str) := by unfold overOf; rw [if_neg e, if_neg e2]
    walk_at "go"
    intro o H2 n2 g2 h2
    refine fin w o H2 (g1.trans (g2 T)) ((g2 T).sqL (sqL_of h1)) ?_
    rw [eo]
    exact sqL_of h2
end K00
end
section
set_option Elab.async false
set_option linter.all false
set_option maxRecDepth 100000
set_option maxHeartbeats 4000000
namespace K00
open PySem PySem.Spec PyProof.Rows L2 LamX U Evl L2H HotX LHot LX LV NdefX
/-! ### steps, by program -/
local macro_rules | `(tactic| walk_at "kp") => `(tactic| first
  | assumption
  | exact sqA_of (by assumption)
  | exact sqB_of (by assumption)
  | exact sqL_of (by assumption)
  | exact sqT_of (by assumption)
  | exact Or.inl (by assumption)
  | exact Or.inr (by assumption)
  | exact Gr.refl _ _
  | exact GrA.gr (by assumption)
  | (apply Gr.trans ?_ (by first | assumption | exact GrA.gr (by assumption)); walk_at "kp")
  | (apply Gr.xd; (first | assumption | exact GrA.gr (T := []) (by assumption)); walk_at "kp")
  | (apply Gr.sq; (first | assumption | exact GrA.gr (T := []) (by assumption)); walk_at "kp")
  | (apply Gr.sqL; (first | assumption | exact GrA.gr (T := []) (by assumption)); walk_at "kp")
  | (apply Gr.sqT; (first | assumption | exact GrA.gr (T := []) (by assumption)); walk_at "kp")
  | (apply Gr.lst; (first | assumption | exact GrA.gr (T := []) (by assumption)); walk_at "kp")
  | (apply Gr.tup; (first | assumption | exact GrA.gr (T := []) (by assumption)); walk_at "kp"))
local macro_rules | `(tactic| walk_at "s") => `(tactic| first
  | with_reducible first
    | refine w_seq ?_ | refine w_asg ?_ | refine w_gname ?_ | refine w_if ?_ | refine w_ret ?_ | refine w_next ?_ | refine w_drop ?_ | refine w_retN ?_ | refine w_brk ?_ | refine w_cont ?_ | refine w_gsub ?_
    | refine w_op ?_ | refine w_c ?_ | refine w_nil ?_ | refine w_cons ?_ | refine w_cb ?_ | refine w_un ?_
    | refine w_I0 ?_ | refine w_U ?_ | refine w_add ?_ | refine w_test ?_ | refine w_tB ?_ | refine w_tr ?_ | refine w_exn ?_ | refine w_trn ?_ | refine w_and ?_ | refine w_or ?_ | refine w_not ?_ | refine w_andV ?_ | refine w_orV ?_ | refine w_notV ?_ | refine w_ifE ?_
    | refine w_eqI ?_ | refine w_neI ?_ | refine w_eqS ?_ | refine w_neS ?_ | refine w_eqB ?_ | refine w_neB ?_ | refine w_isNo ?_ | refine w_notN ?_
    | refine w_call0 ?_ | refine w_tupK ?_ | refine w_lstK ?_ | refine w_bm ?_ | refine w_nop ?_ | refine w_part ?_ | refine w_exi ?_ | refine w_sl ?_
    | refine w_lcS ?_ | refine w_lcR1 ?_ | refine w_lcR2 ?_ | refine w_lcE ?_ | refine w_frS ?_ | refine w_frR1 ?_ | refine w_frR2 ?_ | refine w_frE ?_ | refine w_frT ?_
    | refine w_tYes ?_ | refine w_lcH ?_ | refine w_callE ?_ | refine w_iteD ?_ | refine w_iteND ?_ | refine w_raise ?_ | refine raK1 ?_ | refine raK2 ?_ | refine w_iteNT ?_ | refine w_iteNF ?_ | refine w_ckw ?_ | refine w_callN ?_ | refine w_m1 ?_ | refine w_yes1 ?_ | refine w_iteT ?_ | refine w_iteF ?_ | refine w_abs ?_ | refine w_max2 ?_ | refine w_max3 ?_ | refine w_min2 ?_ | refine w_intI ?_
  | (with_reducible apply w_var; with_unfolding_all rfl)
  | (with_reducible apply w_lenI; walk_at "kp")
  | (with_reducible apply w_len; walk_at "kp")
  | (with_reducible apply w_sum; walk_at "kp")
  | (with_reducible refine lstK ?_ ?_; exact Nat.le_of_ble_eq_true rfl)
  | (with_reducible refine tupK ?_ ?_; exact Nat.le_of_ble_eq_true rfl)
  | (with_reducible apply w_list; walk_at "kp")
  | (with_reducible apply w_tuple; walk_at "kp")
  | (with_reducible apply w_slI; walk_at "kp")
  | (with_reducible apply w_inI; walk_at "kp")
  | (with_reducible apply w_notInI; walk_at "kp"))
local macro_rules | `(tactic| walk_at "go") => `(tactic| repeat' (walk_at "s"))
section
variable {P : Program} {w : World} {K : PySem.W.Frag} {mg : Str → Option Value} {base : Heap} {T : List (Addr × Str)}
/-- a def whose code object is told -/
theorem okC {CX : CXT} {x qual : Str} {params : Arguments} {body : List Stmt} {scope : Scope} {dvs : List V} {kws : List (Str × V)} {q : Str × Option Str} {fd : FuncData} {N ps : List Str} {k : Nat} {sp : Sp} (F : FunD K x qual params body scope dvs kws (He.fAd K q) fd) (S : FnScope N ps scope) (len : ∀ vs H Q E, sp vs H Q E → vs.length = ps.length)
    (hbody : ∀ (A : Around) (outer : List Env) (s : Shared) (H : Hp) (vs : List V) (Q : VK) (E : XK), Room k (A.deeper (envOfC qual scope s.heap.objs.size (He.fAd K q) (.ref (He.codeOf K q)))) → sp vs H Q E →
      ∃ t, PSs (cxOf CX P w K mg base N qual scope (He.fAd K q) (.ref (He.codeOf K q)) A outer s H E) body t ∧ t { nx := fun _ H' => Q .non H', rt := Q } (start N vs) H) : FnOk P w K mg base CX (k + 1) (He.fAd K q) fd ps sp := by
  obtain ⟨oc, od, dV, kV, doc, pm, an, cdv, ct, osl, rfl, lk, hcd, _, _⟩ := F.ex
  obtain ⟨c, rfl⟩ := He.codeIn_ref hcd
  have ec : He.codeOf K q = c := He.codeOf_eq lk rfl
  subst ec
  exact fn_of lk hcd S len fun A outer s H vs Q E hr hsp => hbody A outer s H vs Q E hr hsp
/-- a lambda of the frame, as LamD, and that it is one -/
theorem lamOk_of {X : Cx} {params : Arguments} {scope : Scope} {body : Expr} {fr : List Str} {js : List Nat} {k : Nat} {tb : XK → TE} (S : NScope fr [] fr scope)
    (hfree : ∀ y ∈ scope.names, y.2 = .free → X.env.scope.names.lookup y.1 = some .cell ∨ X.env.scope.names.lookup y.1 = some .free) (hfr : ∀ y ∈ fr, (y, NameKind.free) ∈ scope.names) (hat : js.map (fun j => X.N[j]?) = fr.map some)
    (hbind : ∀ (c : Addr) (pm cv ctv : Value), bindArgs (PySem.W.kla_fn "<lambda>" (lamF X params scope c).qual params body scope (lamF X params scope c).cl pm cv ctv) ⟨[], []⟩ = pure [])
    (hbody : ∀ (c f : Addr) (A : Around) (outer : List Env) (s : Shared) (H : Hp) (E : XK), Room k (A.deeper (envF (lamF X params scope c) f s.heap.objs.size)) → PE (ncx (L2N.CX X.prog X.w) X.prog X.w X.K X.mg X.base fr (lamF X params scope c) f A outer s H E) body (tb E)) :
    LamOk X ⟨lamF X params scope, body, js, k + 1, fun vals => spLam tb fr vals⟩ := by
  intro pins σ H s I f c' hf hc
  exact thunk_ofF I hf hc (Caps.made I.ok hfree hfr hat) S (hbind c') (fun A outer s H E hr => hbody c' f A outer s H E hr)
theorem pe_callPinU {X : Cx} {x : Str} {k n : Nat} {ps : List Str} {sp : Sp} {e : Expr} {es : List Expr} {t : TA} {LS : List LamD} {p pos : Pos} (h : Has X.prog X.w X.K X.mg X.base x k ps sp) (hr : Room n X.A) (hk : k ≤ n) (hfn : ∀ x, X.fn x = true) (hL : ∀ L ∈ LS, LamOk X L) (hg : Gl X x) (ha : PA X (e :: es) t)
    (hdb : (x == ("__debug__" : Str)) = false := by decide) (he : starEach (e :: es) X.env = (false, eval e X.env) :: starEach es X.env := by rfl) (hpl : (backTo pos (starEach es X.env)).any (·.1) = false := by rfl) :
    PE X (.Call (.Name x p) (e :: es) [] pos) (tPin X.prog X.w X.K X.mg X.base LS sp t) := by
  obtain ⟨g, kp, fd, F, B⟩ := h
  exact pe_callPin F (hr.mono hk) hfn hL hg g kp B noCX ha hdb he hpl
/-! the text's lambdas -/
def firstArg : Stmt → Expr
  | .Assign _ (.Call _ (e :: _) _ _) _ => e
  | _ => .Constant .none 0 ⟨0, 0, 0, 0⟩
def lamP : Expr → Arguments
  | .Lambda a _ _ _ => a
  | _ => { posonlyargs := [], args := [], vararg := none, kwonlyargs := [], kw_defaults := [], kwarg := none, defaults := [] }
def lamB : Expr → Expr
  | .Lambda _ b _ _ => b
  | e => e
def lamS : Expr → Scope
  | .Lambda _ _ s _ => s
  | _ => { kind := .function, names := [], isGenerator := false, isCoroutine := false }
end
end K00
end
section
set_option Elab.async false
set_option linter.all false
set_option maxRecDepth 100000
set_option maxHeartbeats 4000000
namespace K00
open PySem PySem.Spec PyProof.Rows L2 LamX U Evl L2H HotX LHot LX LV NdefX
/-! ### steps, by program -/
local macro_rules | `(tactic| walk_at "kp") => `(tactic| first
  | assumption
  | exact sqA_of (by assumption)
  | exact sqB_of (by assumption)
  | exact sqL_of (by assumption)
  | exact sqT_of (by assumption)
  | exact Or.inl (by assumption)
  | exact Or.inr (by assumption)
  | exact Gr.refl _ _
  | exact GrA.gr (by assumption)
  | (apply Gr.trans ?_ (by first | assumption | exact GrA.gr (by assumption)); walk_at "kp")
  | (apply Gr.xd; (first | assumption | exact GrA.gr (T := []) (by assumption)); walk_at "kp")
  | (apply Gr.sq; (first | assumption | exact GrA.gr (T := []) (by assumption)); walk_at "kp")
  | (apply Gr.sqL; (first | assumption | exact GrA.gr (T := []) (by assumption)); walk_at "kp")
  | (apply Gr.sqT; (first | assumption | exact GrA.gr (T := []) (by assumption)); walk_at "kp")
  | (apply Gr.lst; (first | assumption | exact GrA.gr (T := []) (by assumption)); walk_at "kp")
  | (apply Gr.tup; (first | assumption | exact GrA.gr (T := []) (by assumption)); walk_at "kp"))
local macro_rules | `(tactic| walk_at "s") => `(tactic| first
  | with_reducible first
    | refine w_seq ?_ | refine w_asg ?_ | refine w_gname ?_ | refine w_if ?_ | refine w_ret ?_ | refine w_next ?_ | refine w_drop ?_ | refine w_retN ?_ | refine w_brk ?_ | refine w_cont ?_ | refine w_gsub ?_
    | refine w_op ?_ | refine w_c ?_ | refine w_nil ?_ | refine w_cons ?_ | refine w_cb ?_ | refine w_un ?_
    | refine w_I0 ?_ | refine w_U ?_ | refine w_add ?_ | refine w_test ?_ | refine w_tB ?_ | refine w_tr ?_ | refine w_exn ?_ | refine w_trn ?_ | refine w_and ?_ | refine w_or ?_ | refine w_not ?_ | refine w_andV ?_ | refine w_orV ?_ | refine w_notV ?_ | refine w_ifE ?_
    | refine w_eqI ?_ | refine w_neI ?_ | refine w_eqS ?_ | refine w_neS ?_ | refine w_eqB ?_ | refine w_neB ?_ | refine w_isNo ?_ | refine w_notN ?_
    | refine w_call0 ?_ | refine w_tupK ?_ | refine w_lstK ?_ | refine w_bm ?_ | refine w_nop ?_ | refine w_part ?_ | refine w_exi ?_ | refine w_sl ?_
    | refine w_lcS ?_ | refine w_lcR1 ?_ | refine w_lcR2 ?_ | refine w_lcE ?_ | refine w_frS ?_ | refine w_frR1 ?_ | refine w_frR2 ?_ | refine w_frE ?_ | refine w_frT ?_
    | refine w_tYes ?_ | refine w_lcH ?_ | refine w_callE ?_ | refine w_iteD ?_ | refine w_iteND ?_ | refine w_raise ?_ | refine raK1 ?_ | refine raK2 ?_ | refine w_iteNT ?_ | refine w_iteNF ?_ | refine w_ckw ?_ | refine w_callN ?_ | refine w_m1 ?_ | refine w_yes1 ?_ | refine w_iteT ?_ | refine w_iteF ?_ | refine w_abs ?_ | refine w_max2 ?_ | refine w_max3 ?_ | refine w_min2 ?_ | refine w_intI ?_
  | (with_reducible apply w_var; with_unfolding_all rfl)
  | (with_reducible apply w_lenI; walk_at "kp")
  | (with_reducible apply w_len; walk_at "kp")
  | (with_reducible apply w_sum; walk_at "kp")
  | (with_reducible refine lstK ?_ ?_; exact Nat.le_of_ble_eq_true rfl)
  | (with_reducible refine tupK ?_ ?_; exact Nat.le_of_ble_eq_true rfl)
  | (with_reducible apply w_list; walk_at "kp")
  | (with_reducible apply w_tuple; walk_at "kp")
  | (with_reducible apply w_slI; walk_at "kp")
  | (with_reducible apply w_inI; walk_at "kp")
  | (with_reducible apply w_notInI; walk_at "kp"))
local macro_rules | `(tactic| walk_at "go") => `(tactic| repeat' (walk_at "s"))
section
variable {P : Program} {w : World} {K : PySem.W.Frag} {mg : Str → Option Value} {base : Heap}
theorem w_pin {P : Program} {w : World} {mg : Str → Option Value} {base : Heap} {LS : List LamD} {sp : Sp} {t : TA} {σ : L2.St} {H : Hp} {Q : VK} (h : t σ H fun vs H1 => ∀ H2, PinR H1 H2 → Lams P w K mg base LS σ H1 H2 →
  sp vs H2 (fun v H3 => Kept H1 H2 H3 ∧ ∀ H4, UnpR H1 H2 H3 H4 → CodeK H3 H4 → Q v H4) fun _ _ _ => False) : tPin P w K mg base LS sp t σ H Q := h
theorem w_lamV {T : List (Addr × Str)} {mk : Addr → NF} {body : Expr} {σ : L2.St} {H : Hp} {Q : VK} (ht : Tabs T H) (h : ∀ (f c' : Addr) (H1 : Hp), Gr T H H1 → H f = none → H1 f = some (LamO f (mk c') body) → H1 (mk c').c = some (CodeO (mk c').c (mk c').qual) → Q (.ref f) H1) (hc : ∀ c', (mk c').c = c') : tLamV T mk body σ H Q :=
  ⟨ht, fun f c' H1 e n t nf hf hc2 => h f c' H1 ⟨e, n, fun _ => t⟩ nf hf (by rw [hc c']; exact hc2)⟩
theorem map_int_inj : ∀ {xs ys : List Int}, xs.map V.int = ys.map V.int → ys = xs
  | [], [], _ => rfl
  | [], _ :: _, h => by cases h
  | _ :: _, [], h => by cases h
  | x :: xs, y :: ys, h => by
    rw [List.map_cons, List.map_cons] at h
    obtain ⟨h1, h2⟩ := List.cons.inj h
    cases h1
    rw [map_int_inj h2]
end
end K00
end
section
set_option Elab.async false
set_option linter.all false
set_option maxRecDepth 100000
set_option maxHeartbeats 4000000
namespace K00
open PySem PySem.Spec PyProof.Rows L2 LamX U Evl TL L2H HotX LHot LX LV NdefX LW
/-! ### steps, by program -/
local macro_rules | `(tactic| walk_at "kp") => `(tactic| first
  | assumption
  | exact sqA_of (by assumption)
  | exact sqB_of (by assumption)
  | exact sqL_of (by assumption)
  | exact sqT_of (by assumption)
  | exact Or.inl (by assumption)
  | exact Or.inr (by assumption)
  | exact Gr.refl _ _
  | exact GrA.gr (by assumption)
  | (apply Gr.trans ?_ (by first | assumption | exact GrA.gr (by assumption)); walk_at "kp")
  | (apply Gr.xd; (first | assumption | exact GrA.gr (T := []) (by assumption)); walk_at "kp")
  | (apply Gr.sq; (first | assumption | exact GrA.gr (T := []) (by assumption)); walk_at "kp")
  | (apply Gr.sqL; (first | assumption | exact GrA.gr (T := []) (by assumption)); walk_at "kp")
  | (apply Gr.sqT; (first | assumption | exact GrA.gr (T := []) (by assumption)); walk_at "kp")
  | (apply Gr.lst; (first | assumption | exact GrA.gr (T := []) (by assumption)); walk_at "kp")
  | (apply Gr.tup; (first | assumption | exact GrA.gr (T := []) (by assumption)); walk_at "kp"))
local macro_rules | `(tactic| walk_at "s") => `(tactic| first
  | with_reducible first
    | refine w_seq ?_ | refine w_asg ?_ | refine w_gname ?_ | refine w_if ?_ | refine w_ret ?_ | refine w_next ?_ | refine w_drop ?_ | refine w_retN ?_ | refine w_brk ?_ | refine w_cont ?_ | refine w_gsub ?_
    | refine w_op ?_ | refine w_c ?_ | refine w_nil ?_ | refine w_cons ?_ | refine w_cb ?_ | refine w_un ?_
    | refine w_I0 ?_ | refine w_U ?_ | refine w_add ?_ | refine w_test ?_ | refine w_tB ?_ | refine w_tr ?_ | refine w_exn ?_ | refine w_trn ?_ | refine w_and ?_ | refine w_or ?_ | refine w_not ?_ | refine w_andV ?_ | refine w_orV ?_ | refine w_notV ?_ | refine w_ifE ?_
    | refine w_eqI ?_ | refine w_neI ?_ | refine w_eqS ?_ | refine w_neS ?_ | refine w_eqB ?_ | refine w_neB ?_ | refine w_isNo ?_ | refine w_notN ?_
    | refine w_call0 ?_ | refine w_tupK ?_ | refine w_lstK ?_ | refine w_bm ?_ | refine w_nop ?_ | refine w_part ?_ | refine w_exi ?_ | refine w_sl ?_
    | refine w_lcS ?_ | refine w_lcR1 ?_ | refine w_lcR2 ?_ | refine w_lcE ?_ | refine w_frS ?_ | refine w_frR1 ?_ | refine w_frR2 ?_ | refine w_frE ?_ | refine w_frT ?_
    | refine w_tYes ?_ | refine w_lcH ?_ | refine w_callE ?_ | refine w_iteD ?_ | refine w_iteND ?_ | refine w_raise ?_ | refine raK1 ?_ | refine raK2 ?_ | refine w_iteNT ?_ | refine w_iteNF ?_ | refine w_ckw ?_ | refine w_callN ?_ | refine w_m1 ?_ | refine w_yes1 ?_ | refine w_iteT ?_ | refine w_iteF ?_ | refine w_abs ?_ | refine w_max2 ?_ | refine w_max3 ?_ | refine w_min2 ?_ | refine w_intI ?_
  | (with_reducible apply w_var; with_unfolding_all rfl)
  | (with_reducible apply w_lenI; walk_at "kp")
  | (with_reducible apply w_len; walk_at "kp")
  | (with_reducible apply w_sum; walk_at "kp")
  | (with_reducible refine lstK ?_ ?_; exact Nat.le_of_ble_eq_true rfl)
  | (with_reducible refine tupK ?_ ?_; exact Nat.le_of_ble_eq_true rfl)
  | (with_reducible apply w_list; walk_at "kp")
  | (with_reducible apply w_tuple; walk_at "kp")
  | (with_reducible apply w_slI; walk_at "kp")
  | (with_reducible apply w_inI; walk_at "kp")
  | (with_reducible apply w_notInI; walk_at "kp"))
local macro_rules | `(tactic| walk_at "go") => `(tactic| repeat' (walk_at "s"))
section
variable {P : Program} {w : World} {K : PySem.W.Frag} {mg : Str → Option Value} {base : Heap} {T : List (Addr × Str)}
/-- a thunk, and how it ends where H stands -/
structure Ends_ (P : Program) (w : World) (K : PySem.W.Frag) (mg : Str → Option Value) (base : Heap) (k : Nat) (H : Hp) (f : Addr) (Out : VK) (Err : XK) : Prop where
  ex : ∃ sp, Thunk P w K mg base k H f sp ∧ ∀ Q2 E2, (∀ v H1, Out v H1 → Q2 v H1) → (∀ c d H1, Err c d H1 → E2 c d H1) → sp H Q2 E2
/-- a refusal of the package: what its parts are -/
def Told (K : PySem.W.Frag) (H1 : Hp) (c : Value) (d : Option Addr) (word : Str) (vals : List V) : Prop := PySem.W.exmOne K c (.ref (He.ga K "Refused")) = some true ∧ ∃ D dd fs, c = .ref D ∧ LE.Own K D ∧ d = some dd ∧ H1 dd = some (.xd fs) ∧ KindC K D word ∧ fieldsOf word ≠ [] ∧ Flds K D fs (fieldsOf word) vals ∧ vals.length ≤ 10
def spTried (P : Program) (w : World) (K : PySem.W.Frag) (mg : Str → Option Value) (base : Heap) (T : List (Addr × Str)) (k : Nat) : Sp := fun vs H Q _ => ∃ f Out Err, vs = [.ref f] ∧ Ends_ P w K mg base k H f Out Err ∧
  (∀ v H1, Out v H1 → ∀ l H2, Gr T H1 H2 → H2 l = some (.lst [.str "fine", v]) → Q (.ref l) H2) ∧
  (∀ c d H1, Err c d H1 → ∃ word vals, Told K H1 c d word vals ∧ ∀ l H2, Gr T H1 H2 → H2 l = some (.lst (.str word :: vals)) → Q (.ref l) H2)
theorem sc__law_tried : FnScope ["call", "e"] ["call"] (defScope s__law_tried) := ⟨rfl, rfl, rfl, by decide +kernel, rfl, by decide +kernel, by decide +kernel⟩
theorem fn__law_tried (G : Glob K mg) {k : Nat} (hk : 3 ≤ k) (h__law_parts_of : HasE P w K mg base "_law_parts_of" 2 ["e"] (spParts K T)) {fd : FuncData} (F : FunD K "_law_tried" "_law_tried" (defArgs s__law_tried) (defBody s__law_tried) (defScope s__law_tried) [] [] (He.ga K "_law_tried") fd) :
    Has P w K mg base "_law_tried" (k + 1) ["call"] (spTried P w K mg base T k) := by
  have nd := (sc__law_tried).nd
  refine ⟨G.g__law_tried, F.kp, fd, F.ok sc__law_tried (fun vs H Q E h => ?_) (fun cdv A outer s H vs Q E hr h => ?_), F.bindsN fun _ _ _ _ _ _ us hl => match us, hl with | [_], _ => rfl⟩
  · obtain ⟨f, _, _, rfl, _⟩ := h
    rfl
  · obtain ⟨f, Out, Err, rfl, ⟨sp, TH, hsp⟩, h1, h2⟩ := h
    refine ⟨fun D σ H => (fun W : WX => tRet (tLst (tCons (tC (.str "fine")) (tCons (tThunk P w K mg base k 0 (fun σ cls d H => W cls d σ H)) tNil)))) (wFst K (.ref (He.ga K "Refused")) 1 (fun a cls d => tRet (tCallE (spParts K T) a cls d (tCons (tVar 1) tNil))) D) D σ H, ?_, ?_⟩
    · refine pss_one (ps_try_first (tb := fun W : WX => tRet (tLst (tCons (tC (.str "fine")) (tCons (tThunk P w K mg base k 0 (fun σ cls d H => W cls d σ H)) tNil)))) (ts := fun a cls d => tRet (tCallE (spParts K T) a cls d (tCons (tVar 1) tNil))) (i := 1) rfl rfl nd rfl rfl ⟨rfl, by decide, .inl G.g_Refused⟩ (fun W pn xe tk po => ?_) (fun a oe cls d pn hz hf => ?_))
      · exact pss_one (ps_ret (pe_lst (pa_cons pe_str (pa_cons (pe_thunk hr (fun σ => L2N.passAt tk σ) rfl (Or.inl rfl)) pa_nil))))
      · exact pss_one (ps_ret (pe_callUE h__law_parts_of ⟨hr.dp, hr.un⟩ (by omega) (hotE_suite hz hf) (by rfl) (pa_cons (pv 1) pa_nil)))
    · refine w_ret (w_lstK (w_cons (w_c (w_cons ?_))))
      refine ⟨f, sp, rfl, TH, hsp _ _ (fun v H1 ho => ?_) fun c d H1 he => ?_⟩
      · refine w_nil (lstK (Nat.le_of_ble_eq_true rfl) fun l H2 nl g2 h3 => ?_)
        exact h1 v H1 ho l H2 (g2 T) h3
      · obtain ⟨word, vals, ⟨e1, D, dd, fs, rfl, O, rfl, hd, M, hne, hf, hlv⟩, q⟩ := h2 c d H1 he
        refine ⟨e1, fun a na => w_ret (w_callE (w_cons (w_var rfl (w_nil ?_))))⟩
        exact ⟨rfl, D, dd, fs, word, vals, rfl, O, rfl, hd, M, hne, hf, hlv, fun l H2 g2 h3 => q l H2 g2 h3⟩
def spRefused (P : Program) (w : World) (K : PySem.W.Frag) (mg : Str → Option Value) (base : Heap) (T : List (Addr × Str)) (k : Nat) : Sp := fun vs H Q _ => ∃ f p xs ds Err, vs = [.ref f, .ref p] ∧ Ends_ P w K mg base k H f (fun _ _ => False) Err ∧ SqL K H p xs ∧ DpAll K H xs ds ∧ ds.length ≤ 100 ∧ (∀ d ∈ ds, Flat 0 d) ∧
  (∀ c d H1, Err c d H1 → Gr T H H1 ∧ ∃ word vals, Told K H1 c d word vals ∧ ∀ H2, DpAll K H2 (.str word :: vals) ds) ∧ ∀ H', Gr T H H' → Q (.bl true) H'
theorem flat_any {n : Nat} {d : PyData} (h : Flat 0 d) : Flat n d := by
  cases h with
  | non => exact .non
  | bl b => exact .bl b
  | int i => exact .int i
  | str s => exact .str s
theorem short_flat {d : PyData} (h : Flat 0 d) : Short d := by
  cases h with
  | non => exact .non
  | bl b => exact .bl b
  | int i => exact .int i
  | str s => exact .str s
theorem rd_law_refused {k : Nat} : ∀ vs H Q (E : XK), spRefused P w K mg base T k vs H Q E → t__law_refused K (spLikeN K T 4) (spTried P w K mg base T k) (E_ Q) (start ["call", "due"] vs) H := by
  intro vs H Q E h
  obtain ⟨f, p, xs, ds, Err, rfl, hE, hp, hd, hl, hf, he, q⟩ := h
  unfold t__law_refused
  walk_at "go"
  refine ⟨f, _, Err, rfl, hE, fun v H1 ho => ho.elim, fun c d H1 ho => ?_⟩
  obtain ⟨g1, word, vals, ht, hv⟩ := he c d H1 ho
  refine ⟨word, vals, ht, fun l H2 g2 h2 => ?_⟩
  walk_at "go"
  have gg : Gr T H H2 := g1.trans g2
  refine ⟨.ref l, .ref p, .list ds, rfl, .lst (n := 2) fun d hd => flat_any (hf d hd), .lst (by omega) fun d hd => short_flat (hf d hd), .lst (sqL_of h2) (hv H2), .lst (gg.sqL hp) (gg.dpAll hd), fun H5 g5 => q H5 (gg.trans g5)⟩
end
end K00
end
section
set_option Elab.async false
set_option linter.all false
set_option maxRecDepth 100000
set_option maxHeartbeats 4000000
namespace K00
open PySem PySem.Spec PyProof.Rows L2 LamX U Evl TL L2H HotX LHot LX LV NdefX LW
/-! ### steps, by program -/
local macro_rules | `(tactic| walk_at "kp") => `(tactic| first
  | assumption
  | exact sqA_of (by assumption)
  | exact sqB_of (by assumption)
  | exact sqL_of (by assumption)
  | exact sqT_of (by assumption)
  | exact Or.inl (by assumption)
  | exact Or.inr (by assumption)
  | exact Gr.refl _ _
  | exact GrA.gr (by assumption)
  | (apply Gr.trans ?_ (by first | assumption | exact GrA.gr (by assumption)); walk_at "kp")
  | (apply Gr.xd; (first | assumption | exact GrA.gr (T := []) (by assumption)); walk_at "kp")
  | (apply Gr.sq; (first | assumption | exact GrA.gr (T := []) (by assumption)); walk_at "kp")
  | (apply Gr.sqL; (first | assumption | exact GrA.gr (T := []) (by assumption)); walk_at "kp")
  | (apply Gr.sqT; (first | assumption | exact GrA.gr (T := []) (by assumption)); walk_at "kp")
  | (apply Gr.lst; (first | assumption | exact GrA.gr (T := []) (by assumption)); walk_at "kp")
  | (apply Gr.tup; (first | assumption | exact GrA.gr (T := []) (by assumption)); walk_at "kp"))
local macro_rules | `(tactic| walk_at "s") => `(tactic| first
  | with_reducible first
    | refine w_seq ?_ | refine w_asg ?_ | refine w_gname ?_ | refine w_if ?_ | refine w_ret ?_ | refine w_next ?_ | refine w_drop ?_ | refine w_retN ?_ | refine w_brk ?_ | refine w_cont ?_ | refine w_gsub ?_
    | refine w_op ?_ | refine w_c ?_ | refine w_nil ?_ | refine w_cons ?_ | refine w_cb ?_ | refine w_un ?_
    | refine w_I0 ?_ | refine w_U ?_ | refine w_add ?_ | refine w_test ?_ | refine w_tB ?_ | refine w_tr ?_ | refine w_exn ?_ | refine w_trn ?_ | refine w_and ?_ | refine w_or ?_ | refine w_not ?_ | refine w_andV ?_ | refine w_orV ?_ | refine w_notV ?_ | refine w_ifE ?_
    | refine w_eqI ?_ | refine w_neI ?_ | refine w_eqS ?_ | refine w_neS ?_ | refine w_eqB ?_ | refine w_neB ?_ | refine w_isNo ?_ | refine w_notN ?_
    | refine w_call0 ?_ | refine w_tupK ?_ | refine w_lstK ?_ | refine w_bm ?_ | refine w_nop ?_ | refine w_part ?_ | refine w_exi ?_ | refine w_sl ?_
    | refine w_lcS ?_ | refine w_lcR1 ?_ | refine w_lcR2 ?_ | refine w_lcE ?_ | refine w_frS ?_ | refine w_frR1 ?_ | refine w_frR2 ?_ | refine w_frE ?_ | refine w_frT ?_
    | refine w_tYes ?_ | refine w_lcH ?_ | refine w_callE ?_ | refine w_iteD ?_ | refine w_iteND ?_ | refine w_raise ?_ | refine raK1 ?_ | refine raK2 ?_ | refine w_iteNT ?_ | refine w_iteNF ?_ | refine w_ckw ?_ | refine w_callN ?_ | refine w_m1 ?_ | refine w_yes1 ?_ | refine w_iteT ?_ | refine w_iteF ?_ | refine w_abs ?_ | refine w_max2 ?_ | refine w_max3 ?_ | refine w_min2 ?_ | refine w_intI ?_
  | (with_reducible apply w_var; with_unfolding_all rfl)
  | (with_reducible apply w_lenI; walk_at "kp")
  | (with_reducible apply w_len; walk_at "kp")
  | (with_reducible apply w_sum; walk_at "kp")
  | (with_reducible refine lstK ?_ ?_; exact Nat.le_of_ble_eq_true rfl)
  | (with_reducible refine tupK ?_ ?_; exact Nat.le_of_ble_eq_true rfl)
  | (with_reducible apply w_list; walk_at "kp")
  | (with_reducible apply w_tuple; walk_at "kp")
  | (with_reducible apply w_slI; walk_at "kp")
  | (with_reducible apply w_inI; walk_at "kp")
  | (with_reducible apply w_notInI; walk_at "kp"))
local macro_rules | `(tactic| walk_at "go") => `(tactic| repeat' (walk_at "s"))
section
variable {P : Program} {w : World} {K : PySem.W.Frag} {mg : Str → Option Value} {base : Heap}
abbrev q1 : Str := "_law_asked.<locals>.<lambda>"
abbrev P1 (K : PySem.W.Frag) : Addr := (He.cT K ("_law_asked", none)).2
abbrev TT (K : PySem.W.Frag) : List (Addr × Str) := [(P1 K, q1)]
/-- what the written part says of both exception classes -/
structure Exs (K : PySem.W.Frag) : Prop where
  bn : LE.Own K (He.ga K "BadNumber")
  bnK : KindC K (He.ga K "BadNumber") "BadNumber"
  bnA : PySem.W.findIn K (.ref (He.ga K "BadNumber")) "at" = some none
  bnE : PySem.W.exmOne K (.ref (He.ga K "BadNumber")) (.ref (He.ga K "Refused")) = some true
  tm : LE.Own K (He.ga K "TooMany")
  tmK : KindC K (He.ga K "TooMany") "TooMany"
  tmW : PySem.W.findIn K (.ref (He.ga K "TooMany")) "what" = some none
  tmC : PySem.W.findIn K (.ref (He.ga K "TooMany")) "count" = some none
  tmE : PySem.W.exmOne K (.ref (He.ga K "TooMany")) (.ref (He.ga K "Refused")) = some true
def lamAt (k : Nat) : Stmt → Expr
  | .If _ (.Return (some (.BoolOp _ es _)) _ :: _) _ _ => match es.getD k (.Constant .none 0 ⟨0, 0, 0, 0⟩) with
    | .Call _ (e :: _) _ _ => e
    | e => e
  | _ => .Constant .none 0 ⟨0, 0, 0, 0⟩
abbrev eA (k : Nat) : Expr := lamAt k ((defBody s__law_asked).getD 1 (.Pass ⟨0, 0, 0, 0⟩))
theorem sc__law_asked : FnScope ["given", "pair", "due", "first", "word"] ["given", "pair"] (defScope s__law_asked) := ⟨rfl, rfl, rfl, by decide +kernel, rfl, by decide +kernel, by decide +kernel⟩
theorem nsA0 : NScope ["given"] [] ["given"] (lamS (eA 0)) := ⟨rfl, rfl, rfl, by decide +kernel, rfl, by decide +kernel, by decide +kernel, by decide +kernel, by decide +kernel⟩
theorem hfA0 : ∀ y ∈ (lamS (eA 0)).names, y.2 = .free → (defScope s__law_asked).names.lookup y.1 = some .cell ∨ (defScope s__law_asked).names.lookup y.1 = some .free := by decide +kernel
theorem nsA1 : NScope ["given"] [] ["given"] (lamS (eA 1)) := ⟨rfl, rfl, rfl, by decide +kernel, rfl, by decide +kernel, by decide +kernel, by decide +kernel, by decide +kernel⟩
theorem hfA1 : ∀ y ∈ (lamS (eA 1)).names, y.2 = .free → (defScope s__law_asked).names.lookup y.1 = some .cell ∨ (defScope s__law_asked).names.lookup y.1 = some .free := by decide +kernel
/-- the errors that a wrong number ends with -/
abbrev ErrN (K : PySem.W.Frag) (H4 : Hp) (o : Option (Int × Int)) : XK := fun c d H5 => ∃ dd, d = some dd ∧ Gr (TT K) H4 H5 ∧
  ((o = none ∧ c = .ref (He.ga K "BadNumber") ∧ H5 dd = some (.xd [("at", .int 0)])) ∨ ∃ a b, o = some (a, b) ∧ 60 < mostOf a b ∧ c = .ref (He.ga K "TooMany") ∧ H5 dd = some (.xd [("count", .int (mostOf a b : Nat)), ("what", .str "digits")]))
theorem ends_num {f : Addr} {H4 : Hp} {tb : XK → TE} {fr : List Str} {vals : L2.St} {o : Option (Int × Int)} (TH : Thunk P w K mg base 8 H4 f (spLam tb fr vals)) (big : ∀ a b, o = some (a, b) → 60 < mostOf a b)
    (h : ∀ cs, (∀ b o, H4 b = some o → (∀ φ, o ≠ .ext φ) → mix cs HN H4 b = some o) → ∀ (Q : VK) (E : XK), (o = none → ∀ d H', Gr (TT K) (mix cs HN H4) H' → H' d = some (.xd [("at", .int 0)]) → E (.ref (He.ga K "BadNumber")) (some d) H') →
      (∀ a b, o = some (a, b) → ∀ d H', Gr (TT K) (mix cs HN H4) H' → H' d = some (.xd [("count", .int (mostOf a b : Nat)), ("what", .str "digits")]) → E (.ref (He.ga K "TooMany")) (some d) H') → tb E (startF fr [] vals) (mix cs HN H4) Q) :
    Ends_ P w K mg base 8 H4 f (fun _ _ => False) (ErrN K H4 o) := by
  refine ⟨_, TH, fun Q2 E2 ho he => ?_⟩
  intro cs hpn hnc
  exact h cs (mix_to hpn) _ _ (fun e d H' g hx hfr => he _ _ _ ⟨d, rfl, gr_out hpn hnc hfr g, .inl ⟨e, rfl, mix_from hfr _ _ hx⟩⟩) (fun a b e d H' g hx hfr => he _ _ _ ⟨d, rfl, gr_out hpn hnc hfr g, .inr ⟨a, b, e, big a b e, rfl, mix_from hfr _ _ hx⟩⟩)
theorem told_num (X : Exs K) {H4 H5 : Hp} {o : Option (Int × Int)} {c : Value} {d : Option Addr} (big : ∀ a b, o = some (a, b) → 60 < mostOf a b) (h : ErrN K H4 o c d H5) : Gr (TT K) H4 H5 ∧ ∃ word vals, Told K H5 c d word vals ∧ ∀ H2, DpAll K H2 (.str word :: vals) (dueOf o) := by
  obtain ⟨dd, rfl, g, h | h⟩ := h
  · obtain ⟨rfl, rfl, hx⟩ := h
    have e : fieldsOf "BadNumber" = (["at"] : List Str) := by decide +kernel
    refine ⟨g, "BadNumber", [.int 0], ⟨X.bnE, _, dd, _, rfl, X.bn, rfl, hx, X.bnK, by rw [e]; simp, by rw [e]; exact .cons X.bnA rfl .nil, Nat.le_of_ble_eq_true rfl⟩, fun H2 => .cons (.str _) (.cons (.int _) .nil)⟩
  · obtain ⟨a, b, rfl, hb, rfl, hx⟩ := h
    have e : fieldsOf "TooMany" = (["what", "count"] : List Str) := by decide +kernel
    refine ⟨g, "TooMany", [.str "digits", .int (mostOf a b : Nat)], ⟨X.tmE, _, dd, _, rfl, X.tm, rfl, hx, X.tmK, by rw [e]; simp, by rw [e]; exact .cons X.tmW rfl (.cons X.tmC rfl .nil), Nat.le_of_ble_eq_true rfl⟩, fun H2 => ?_⟩
    unfold dueOf
    dsimp only
    rw [if_pos hb]
    exact .cons (.str _) (.cons (.str _) (.cons (.int _) .nil))
theorem due_flat {o : Option (Int × Int)} (big : ∀ a b, o = some (a, b) → 60 < mostOf a b) : (dueOf o).length ≤ 100 ∧ ∀ d ∈ dueOf o, Flat 0 d := by
  cases o with
  | none =>
    refine ⟨by show 2 ≤ 100; decide, fun d hd => ?_⟩
    have hd : d ∈ [PyData.str "BadNumber", .int 0] := hd
    simp only [List.mem_cons, List.not_mem_nil, or_false] at hd
    rcases hd with rfl | rfl
    · exact .str _
    · exact .int _
  | some ab =>
    obtain ⟨a, b⟩ := ab
    have hb := big a b rfl
    have e : dueOf (some (a, b)) = [.str "TooMany", .str "digits", .int (mostOf a b : Nat)] := by
      unfold dueOf
      dsimp only
      rw [if_pos hb]
    rw [e]
    refine ⟨by show 3 ≤ 100; decide, fun d hd => ?_⟩
    simp only [List.mem_cons, List.not_mem_nil, or_false] at hd
    rcases hd with rfl | rfl | rfl
    · exact .str _
    · exact .str _
    · exact .int _
def spAsked (K : PySem.W.Frag) : Sp := fun vs H Q _ => ∃ v u o, vs = [v, u] ∧ Tabs (TT K) H ∧ NumArg K H v o ∧ PairArg K H u o ∧ ∀ H', Gr (TT K) H H' → Q (.bl true) H'
end
end K00
end
section
set_option Elab.async false
set_option linter.all false
set_option maxRecDepth 100000
set_option maxHeartbeats 4000000
namespace K00
open PySem PySem.Spec PyProof.Rows L2 LamX U Evl TL L2H HotX LHot LX LV NdefX LW
/-! ### steps, by program -/
local macro_rules | `(tactic| walk_at "kp") => `(tactic| first
  | assumption
  | exact sqA_of (by assumption)
  | exact sqB_of (by assumption)
  | exact sqL_of (by assumption)
  | exact sqT_of (by assumption)
  | exact Or.inl (by assumption)
  | exact Or.inr (by assumption)
  | exact Gr.refl _ _
  | exact GrA.gr (by assumption)
  | (apply Gr.trans ?_ (by first | assumption | exact GrA.gr (by assumption)); walk_at "kp")
  | (apply Gr.xd; (first | assumption | exact GrA.gr (T := []) (by assumption)); walk_at "kp")
  | (apply Gr.sq; (first | assumption | exact GrA.gr (T := []) (by assumption)); walk_at "kp")
  | (apply Gr.sqL; (first | assumption | exact GrA.gr (T := []) (by assumption)); walk_at "kp")
  | (apply Gr.sqT; (first | assumption | exact GrA.gr (T := []) (by assumption)); walk_at "kp")
  | (apply Gr.lst; (first | assumption | exact GrA.gr (T := []) (by assumption)); walk_at "kp")
  | (apply Gr.tup; (first | assumption | exact GrA.gr (T := []) (by assumption)); walk_at "kp"))
local macro_rules | `(tactic| walk_at "s") => `(tactic| first
  | with_reducible first
    | refine w_seq ?_ | refine w_asg ?_ | refine w_gname ?_ | refine w_if ?_ | refine w_ret ?_ | refine w_next ?_ | refine w_drop ?_ | refine w_retN ?_ | refine w_brk ?_ | refine w_cont ?_ | refine w_gsub ?_
    | refine w_op ?_ | refine w_c ?_ | refine w_nil ?_ | refine w_cons ?_ | refine w_cb ?_ | refine w_un ?_
    | refine w_I0 ?_ | refine w_U ?_ | refine w_add ?_ | refine w_test ?_ | refine w_tB ?_ | refine w_tr ?_ | refine w_exn ?_ | refine w_trn ?_ | refine w_and ?_ | refine w_or ?_ | refine w_not ?_ | refine w_andV ?_ | refine w_orV ?_ | refine w_notV ?_ | refine w_ifE ?_
    | refine w_eqI ?_ | refine w_neI ?_ | refine w_eqS ?_ | refine w_neS ?_ | refine w_eqB ?_ | refine w_neB ?_ | refine w_isNo ?_ | refine w_notN ?_
    | refine w_call0 ?_ | refine w_tupK ?_ | refine w_lstK ?_ | refine w_bm ?_ | refine w_nop ?_ | refine w_part ?_ | refine w_exi ?_ | refine w_sl ?_
    | refine w_lcS ?_ | refine w_lcR1 ?_ | refine w_lcR2 ?_ | refine w_lcE ?_ | refine w_frS ?_ | refine w_frR1 ?_ | refine w_frR2 ?_ | refine w_frE ?_ | refine w_frT ?_
    | refine w_tYes ?_ | refine w_lcH ?_ | refine w_callE ?_ | refine w_iteD ?_ | refine w_iteND ?_ | refine w_raise ?_ | refine raK1 ?_ | refine raK2 ?_ | refine w_iteNT ?_ | refine w_iteNF ?_ | refine w_ckw ?_ | refine w_callN ?_ | refine w_m1 ?_ | refine w_yes1 ?_ | refine w_iteT ?_ | refine w_iteF ?_ | refine w_abs ?_ | refine w_max2 ?_ | refine w_max3 ?_ | refine w_min2 ?_ | refine w_intI ?_
  | (with_reducible apply w_var; with_unfolding_all rfl)
  | (with_reducible apply w_lenI; walk_at "kp")
  | (with_reducible apply w_len; walk_at "kp")
  | (with_reducible apply w_sum; walk_at "kp")
  | (with_reducible refine lstK ?_ ?_; exact Nat.le_of_ble_eq_true rfl)
  | (with_reducible refine tupK ?_ ?_; exact Nat.le_of_ble_eq_true rfl)
  | (with_reducible apply w_list; walk_at "kp")
  | (with_reducible apply w_tuple; walk_at "kp")
  | (with_reducible apply w_slI; walk_at "kp")
  | (with_reducible apply w_inI; walk_at "kp")
  | (with_reducible apply w_notInI; walk_at "kp"))
local macro_rules | `(tactic| walk_at "go") => `(tactic| repeat' (walk_at "s"))
section
variable {P : Program} {w : World} {K : PySem.W.Frag} {mg : Str → Option Value} {base : Heap}
theorem w_callK0 {m : Nat} {sp : Sp} {gV : List V → List V} {E : XK} {tk : TA} {σ : L2.St} {H : Hp} {Q : VK} (h : tk σ H fun zs H2 => zs.length = m ∧ sp (gV zs) H2 Q E) : tCallK0 m sp gV E tk σ H Q := h
theorem fn__law_asked (G : Glob K mg) (X : Exs K) (h__law_due : Has P w K mg base "_law_due" 3 ["pair"] (spDue K (TT K))) (h__law_refused : Has P w K mg base "_law_refused" 10 ["call", "due"] (spRefused P w K mg base (TT K) 8)) (h_read_number : Has P w K mg base "read_number" 4 ["thing"] (spRead K (TT K))) (h_number_text : Has P w K mg base "number_text" 5 ["thing"] (spNumText K (TT K)))
    (h__law_like : Has P w K mg base "_law_like" 5 ["told", "due"] (spLikeN K (TT K) 4)) (h__law_word : Has P w K mg base "_law_word" 1 ["u"] (spWord K)) (k_number_text_thing : HasK0 P w K mg base "number_text" 5 ["thing"] ["thing"] (fun zs => zs) (fun zs => zs) (spNumText K (TT K))) (k_read_number_thing : HasK0 P w K mg base "read_number" 4 ["thing"] ["thing"] (fun zs => zs) (fun zs => zs) (spRead K (TT K)))
    (TB : TabB base mg (He.codeOf K ("_law_asked", none)) (P1 K)) {fd : FuncData} (F : FunD K "_law_asked" "_law_asked" (defArgs s__law_asked) (defBody s__law_asked) (defScope s__law_asked) [] [] (He.ga K "_law_asked") fd) :
    Has P w K mg base "_law_asked" 12 ["given", "pair"] (spAsked K) := by
  have nd := (sc__law_asked).nd
  refine ⟨G.g__law_asked, F.kp, fd, okC (q := ("_law_asked", none)) F sc__law_asked (fun vs H Q E h => ?_) (fun A outer s H vs Q E hr h => ?_), F.bindsN fun _ _ _ _ _ _ us hl => match us, hl with | [_, _], _ => rfl⟩
  · obtain ⟨v, u, o, rfl, _⟩ := h
    rfl
  · have hm : (P1 K, q1) ∈ TT K := List.mem_cons_self ..
    have hu : ∀ p ∈ TT K, p.1 = P1 K → p.2 = q1 := fun p hp e => by
      have z : p = (P1 K, q1) := by simpa using hp
      rw [z]
    have hLS : ∀ L ∈ ([⟨lamF (cxOf (L2N.CX P w) P w K mg base ["given", "pair", "due", "first", "word"] "_law_asked" (defScope s__law_asked) (He.fAd K ("_law_asked", none)) (.ref (He.codeOf K ("_law_asked", none))) A outer s H E).nox (lamP (eA 0)) (lamS (eA 0)), lamB (eA 0), [0], 8, fun vals => spLam (fun E => tCall (spRead K (TT K)) [] E (tCons (tVar 0) tNil)) ["given"] vals⟩, ⟨lamF (cxOf (L2N.CX P w) P w K mg base ["given", "pair", "due", "first", "word"] "_law_asked" (defScope s__law_asked) (He.fAd K ("_law_asked", none)) (.ref (He.codeOf K ("_law_asked", none))) A outer s H E).nox (lamP (eA 1)) (lamS (eA 1)), lamB (eA 1), [0], 8, fun vals => spLam (fun E => tCallK0 1 (spNumText K (TT K)) (fun zs => zs) E (tCons (tVar 0) tNil)) ["given"] vals⟩] : List LamD), LamOk ((cxOf (L2N.CX P w) P w K mg base ["given", "pair", "due", "first", "word"] "_law_asked" (defScope s__law_asked) (He.fAd K ("_law_asked", none)) (.ref (He.codeOf K ("_law_asked", none))) A outer s H E).nox) L := by
      intro L hl
      simp only [List.mem_cons, List.not_mem_nil, or_false] at hl
      rcases hl with rfl | rfl
      · refine lamOk_of (k := 7) nsA0 hfA0 (by decide +kernel) rfl (fun _ _ _ _ => rfl) (fun c f A2 outer2 s2 H2 E2 hr => ?_)
        have tk := L2N.takes_of (X := ncx (L2N.CX P w) P w K mg base ["given"] (lamF (cxOf (L2N.CX P w) P w K mg base ["given", "pair", "due", "first", "word"] "_law_asked" (defScope s__law_asked) (He.fAd K ("_law_asked", none)) (.ref (He.codeOf K ("_law_asked", none))) A outer s H E).nox (lamP (eA 0)) (lamS (eA 0)) c) f A2 outer2 s2 H2 E2) (E := E2) rfl rfl rfl rfl
        exact pe_callU h_read_number hr (by decide) (by rfl) (L2N.passes_call tk fun _ _ _ _ h => h) (pa_cons (pv 0) pa_nil)
      · refine lamOk_of (k := 7) nsA1 hfA1 (by decide +kernel) rfl (fun _ _ _ _ => rfl) (fun c f A2 outer2 s2 H2 E2 hr => ?_)
        have tk := L2N.takes_of (X := ncx (L2N.CX P w) P w K mg base ["given"] (lamF (cxOf (L2N.CX P w) P w K mg base ["given", "pair", "due", "first", "word"] "_law_asked" (defScope s__law_asked) (He.fAd K ("_law_asked", none)) (.ref (He.codeOf K ("_law_asked", none))) A outer s H E).nox (lamP (eA 1)) (lamS (eA 1)) c) f A2 outer2 s2 H2 E2) (E := E2) rfl rfl rfl rfl
        exact pe_callKU0 (ks := ["thing"]) k_number_text_thing hr (by decide) (by rfl) (L2N.passes_call tk fun _ _ _ _ h => h) (pk_cons (pv 0) pk_nil)
    refine ⟨(tSeq (tAsg (tCall (spDue K (TT K)) [] E0 (tCons (tVar 1) tNil)) (gName 2))
  (tSeq (tIfS (tTest (tOp (uNe K) (tOp (uIx K) (tVar 2) (tC (.int 0))) (tC (.str "fine")))) (tRet (tAndV (tPin P w K mg base [⟨lamF (cxOf (L2N.CX P w) P w K mg base ["given", "pair", "due", "first", "word"] "_law_asked" (defScope s__law_asked) (He.fAd K ("_law_asked", none)) (.ref (He.codeOf K ("_law_asked", none))) A outer s H E).nox (lamP (eA 0)) (lamS (eA 0)), lamB (eA 0), [0], 8, fun vals => spLam (fun E => tCall (spRead K (TT K)) [] E (tCons (tVar 0) tNil)) ["given"] vals⟩, ⟨lamF (cxOf (L2N.CX P w) P w K mg base ["given", "pair", "due", "first", "word"] "_law_asked" (defScope s__law_asked) (He.fAd K ("_law_asked", none)) (.ref (He.codeOf K ("_law_asked", none))) A outer s H E).nox (lamP (eA 1)) (lamS (eA 1)), lamB (eA 1), [0], 8, fun vals => spLam (fun E => tCallK0 1 (spNumText K (TT K)) (fun zs => zs) E (tCons (tVar 0) tNil)) ["given"] vals⟩] (spRefused P w K mg base (TT K) 8) (tCons (tLamV (TT K) (lamF (cxOf (L2N.CX P w) P w K mg base ["given", "pair", "due", "first", "word"] "_law_asked" (defScope s__law_asked) (He.fAd K ("_law_asked", none)) (.ref (He.codeOf K ("_law_asked", none))) A outer s H E).nox (lamP (eA 0)) (lamS (eA 0))) (lamB (eA 0))) (tCons (tVar 2) tNil))) (tPin P w K mg base [⟨lamF (cxOf (L2N.CX P w) P w K mg base ["given", "pair", "due", "first", "word"] "_law_asked" (defScope s__law_asked) (He.fAd K ("_law_asked", none)) (.ref (He.codeOf K ("_law_asked", none))) A outer s H E).nox (lamP (eA 0)) (lamS (eA 0)), lamB (eA 0), [0], 8, fun vals => spLam (fun E => tCall (spRead K (TT K)) [] E (tCons (tVar 0) tNil)) ["given"] vals⟩, ⟨lamF (cxOf (L2N.CX P w) P w K mg base ["given", "pair", "due", "first", "word"] "_law_asked" (defScope s__law_asked) (He.fAd K ("_law_asked", none)) (.ref (He.codeOf K ("_law_asked", none))) A outer s H E).nox (lamP (eA 1)) (lamS (eA 1)), lamB (eA 1), [0], 8, fun vals => spLam (fun E => tCallK0 1 (spNumText K (TT K)) (fun zs => zs) E (tCons (tVar 0) tNil)) ["given"] vals⟩] (spRefused P w K mg base (TT K) 8) (tCons (tLamV (TT K) (lamF (cxOf (L2N.CX P w) P w K mg base ["given", "pair", "due", "first", "word"] "_law_asked" (defScope s__law_asked) (He.fAd K ("_law_asked", none)) (.ref (He.codeOf K ("_law_asked", none))) A outer s H E).nox (lamP (eA 1)) (lamS (eA 1))) (lamB (eA 1))) (tCons (tVar 2) tNil))))) tNext)
  (tSeq (tAsg (tCallK0 1 (spRead K (TT K)) (fun zs => zs) E0 (tCons (tVar 0) tNil)) (gName 3))
  (tSeq (tAsg (tCall (spNumText K (TT K)) [] E0 (tCons (tVar 0) tNil)) (gName 4))
  (tSeq (tIfS (tOr (tNot (L2.tB (tCall (spLikeN K (TT K) 4) [] E0 (tCons (tVar 3) (tCons (tOp (uIx K) (tVar 2) (tC (.int 1))) tNil))))) (tNot (L2.tB (tCall (spLikeN K (TT K) 4) [] E0 (tCons (tVar 4) (tCons (tCall (spWord K) [] E0 (tCons (tOp (uIx K) (tVar 2) (tC (.int 1))) tNil)) tNil)))))) (tRet (tC (.bl false))) tNext)
  (tRet (tAndV (tCall (spLikeN K (TT K) 4) [] E0 (tCons (tCall (spRead K (TT K)) [] E0 (tCons (tVar 4) tNil)) (tCons (tOp (uIx K) (tVar 2) (tC (.int 1))) tNil))) (tAndV (tCall (spLikeN K (TT K) 4) [] E0 (tCons (tCall (spRead K (TT K)) [] E0 (tCons (tVar 3) tNil)) (tCons (tOp (uIx K) (tVar 2) (tC (.int 1))) tNil))) (tAndV (tCall (spLikeN K (TT K) 4) [] E0 (tCons (tCall (spNumText K (TT K)) [] E0 (tCons (tVar 4) tNil)) (tCons (tVar 4) tNil))) (tCall (spLikeN K (TT K) 4) [] E0 (tCons (tCall (spNumText K (TT K)) [] E0 (tCons (tVar 3) tNil)) (tCons (tVar 4) tNil)))))))))))), PSs.nox (pss_cons (ps_set (i := 2) nd rfl (by first | exact Or.inl rfl | exact Or.inr rfl) (pe_callU h__law_due hr (by decide) (by rfl) passN (pa_cons (pv 1) pa_nil)))
      (pss_cons (ps_if (pt_cmpR (op_uNe hr.units) (pe_ix ix_u (pv 2) pe_int (fun _ _ => rfl)) pe_str (by rfl)) (pss_one (ps_ret (pe_and (pe_callPinU (LS := [⟨lamF (cxOf (L2N.CX P w) P w K mg base ["given", "pair", "due", "first", "word"] "_law_asked" (defScope s__law_asked) (He.fAd K ("_law_asked", none)) (.ref (He.codeOf K ("_law_asked", none))) A outer s H E).nox (lamP (eA 0)) (lamS (eA 0)), lamB (eA 0), [0], 8, fun vals => spLam (fun E => tCall (spRead K (TT K)) [] E (tCons (tVar 0) tNil)) ["given"] vals⟩, ⟨lamF (cxOf (L2N.CX P w) P w K mg base ["given", "pair", "due", "first", "word"] "_law_asked" (defScope s__law_asked) (He.fAd K ("_law_asked", none)) (.ref (He.codeOf K ("_law_asked", none))) A outer s H E).nox (lamP (eA 1)) (lamS (eA 1)), lamB (eA 1), [0], 8, fun vals => spLam (fun E => tCallK0 1 (spNumText K (TT K)) (fun zs => zs) E (tCons (tVar 0) tNil)) ["given"] vals⟩]) h__law_refused hr (by decide) (fun _ => rfl) hLS (by rfl) (pa_cons (pe_lam (T := TT K) TB rfl hm hu rfl hfA0) (pa_cons (pv 2) pa_nil))) (pe_one (pe_callPinU (LS := [⟨lamF (cxOf (L2N.CX P w) P w K mg base ["given", "pair", "due", "first", "word"] "_law_asked" (defScope s__law_asked) (He.fAd K ("_law_asked", none)) (.ref (He.codeOf K ("_law_asked", none))) A outer s H E).nox (lamP (eA 0)) (lamS (eA 0)), lamB (eA 0), [0], 8, fun vals => spLam (fun E => tCall (spRead K (TT K)) [] E (tCons (tVar 0) tNil)) ["given"] vals⟩, ⟨lamF (cxOf (L2N.CX P w) P w K mg base ["given", "pair", "due", "first", "word"] "_law_asked" (defScope s__law_asked) (He.fAd K ("_law_asked", none)) (.ref (He.codeOf K ("_law_asked", none))) A outer s H E).nox (lamP (eA 1)) (lamS (eA 1)), lamB (eA 1), [0], 8, fun vals => spLam (fun E => tCallK0 1 (spNumText K (TT K)) (fun zs => zs) E (tCons (tVar 0) tNil)) ["given"] vals⟩]) h__law_refused hr (by decide) (fun _ => rfl) hLS (by rfl) (pa_cons (pe_lam (T := TT K) TB rfl hm hu rfl hfA1) (pa_cons (pv 2) pa_nil))))))) pss_nil)
      (pss_cons (ps_set (i := 3) nd rfl (by first | exact Or.inl rfl | exact Or.inr rfl) (pe_callKU0 (ks := ["thing"]) k_read_number_thing hr (by decide) (by rfl) passN (pk_cons (pv 0) pk_nil)))
      (pss_cons (ps_set (i := 4) nd rfl (by first | exact Or.inl rfl | exact Or.inr rfl) (pe_callU h_number_text hr (by decide) (by rfl) passN (pa_cons (pv 0) pa_nil)))
      (pss_cons (ps_if ((pw_or (pt_not (pt_val (pe_callU h__law_like hr (by decide) (by rfl) passN (pa_cons (pv 3) (pa_cons (pe_ix ix_u (pv 2) pe_int (fun _ _ => rfl)) pa_nil))))) (pw_or1 (pt_not (pt_val (pe_callU h__law_like hr (by decide) (by rfl) passN (pa_cons (pv 4) (pa_cons (pe_callU h__law_word hr (by decide) (by rfl) passN (pa_cons (pe_ix ix_u (pv 2) pe_int (fun _ _ => rfl)) pa_nil)) pa_nil)))))))).pt (pss_one (ps_ret pe_bl)) pss_nil)
      (pss_one (ps_ret (pe_and (pe_callU h__law_like hr (by decide) (by rfl) passN (pa_cons (pe_callU h_read_number hr (by decide) (by rfl) passN (pa_cons (pv 4) pa_nil)) (pa_cons (pe_ix ix_u (pv 2) pe_int (fun _ _ => rfl)) pa_nil))) (pe_and (pe_callU h__law_like hr (by decide) (by rfl) passN (pa_cons (pe_callU h_read_number hr (by decide) (by rfl) passN (pa_cons (pv 3) pa_nil)) (pa_cons (pe_ix ix_u (pv 2) pe_int (fun _ _ => rfl)) pa_nil))) (pe_and (pe_callU h__law_like hr (by decide) (by rfl) passN (pa_cons (pe_callU h_number_text hr (by decide) (by rfl) passN (pa_cons (pv 4) pa_nil)) (pa_cons (pv 4) pa_nil))) (pe_one (pe_callU h__law_like hr (by decide) (by rfl) passN (pa_cons (pe_callU h_number_text hr (by decide) (by rfl) passN (pa_cons (pv 3) pa_nil)) (pa_cons (pv 4) pa_nil)))))))))))))), ?_⟩
    obtain ⟨v, u, o, rfl, htab, hv, hu2, q⟩ := h
    walk_at "go"
    refine ⟨u, o, rfl, hu2, fun dl xs H1 g1 h1 hd1 => ?_⟩
    have hv1 : NumArg K H1 v o := Gr.num g1 hv
    have s1 : SqL K H1 dl xs := sqL_of h1
    have hcase : (o = none ∨ ∃ a b, o = some (a, b) ∧ 60 < mostOf a b) ∨ ∃ a b, o = some (a, b) ∧ mostOf a b ≤ 60 := by
      cases o with
      | none => exact .inl (.inl rfl)
      | some ab =>
        obtain ⟨a, b⟩ := ab
        by_cases hb : 60 < mostOf a b
        · exact .inl (.inr ⟨a, b, rfl, hb⟩)
        · exact .inr ⟨a, b, rfl, by omega⟩
    rcases hcase with hcase | ⟨a, b, rfl, h60⟩
    · -- refused
      have big : ∀ a b, o = some (a, b) → 60 < mostOf a b := fun a b e => by
        rcases hcase with z | ⟨a', b', z, hb⟩
        · rw [z] at e; cases e
        · rw [z] at e; cases e; exact hb
      have hx0 : ∃ z : Str, xs[0]? = some (.str z) ∧ z ≠ "fine" := by
        rcases hcase with z | ⟨a', b', z, hb⟩
        · rw [z] at hd1
          have hd1 : DpAll K H1 xs [PyData.str "BadNumber", .int 0] := hd1
          cases hd1 with
          | cons x _ =>
            cases x
            exact ⟨_, rfl, by decide +kernel⟩
        · rw [z] at hd1
          unfold dueOf at hd1
          dsimp only at hd1
          rw [if_pos hb] at hd1
          cases hd1 with
          | cons x _ =>
            cases x
            exact ⟨_, rfl, by decide +kernel⟩
      obtain ⟨z, e0, ez⟩ := hx0
      obtain ⟨fl1, fl2⟩ := due_flat big
      have call : ∀ (H2 : Hp), Gr (TT K) H1 H2 → ∀ k, k = 0 ∨ k = 1 → ∀ (Q2 : VK), (∀ H3, Gr (TT K) H2 H3 → Q2 (.bl true) H3) → ∀ (f c' : Addr) (H3 : Hp), Gr (TT K) H2 H3 → ∀ H4, PinR H3 H4 →
          Thunk P w K mg base 8 H4 f (spLam (if k = 0 then (fun E => tCall (spRead K (TT K)) [] E (tCons (tVar 0) tNil)) else (fun E => tCallK0 1 (spNumText K (TT K)) (fun zs => zs) E (tCons (tVar 0) tNil))) ["given"] [some v]) →
          spRefused P w K mg base (TT K) 8 [.ref f, .ref dl] H4 (fun v H5 => Kept H3 H4 H5 ∧ ∀ H6, UnpR H3 H4 H5 H6 → CodeK H5 H6 → Q2 v H6) fun _ _ _ => False := by
        intro H2 g2 k hk Q2 hq f c' H3 g3 H4 pr TH
        have g13 : Gr (TT K) H1 H3 := g2.trans g3
        have hv4 : NumArg K H4 v o := (Gr.num g13 hv1).to fun b o e _ => pinR_to pr b o e
        refine ⟨f, dl, xs, dueOf o, ErrN K H4 o, rfl, ends_num TH big (fun cs mx Q0 E0 e1 e2 => ?_), sqL_to (g13.sqL s1) (fun o e _ => pinR_to pr _ o e), ?_, fl1, fl2, fun c d H5 he => told_num X big he, fun H5 g5 => ⟨kept_of g5, fun H6 u ck => hq H6 (g3.trans (gr_unpin pr g5 u ck))⟩⟩
        · have hvm : NumArg K (mix cs HN H4) v o := hv4.to mx
          rcases hk with rfl | rfl
          · rw [if_pos rfl]
            refine w_call0 (w_cons (w_var rfl (w_nil ?_)))
            exact ⟨v, o, rfl, hvm, fun e d H' g h => e1 e d H' g h, fun a b e => ⟨fun _ d H' g h => e2 a b e d H' g h, fun h60 => by have := big a b e; omega⟩⟩
          · rw [if_neg (by decide)]
            refine w_callK0 (w_cons (w_var rfl (w_nil ⟨rfl, ?_⟩)))
            exact ⟨v, o, rfl, hvm, fun e d H' g h => e1 e d H' g h, fun a b e => ⟨fun _ d H' g h => e2 a b e d H' g h, fun h60 => by have := big a b e; omega⟩⟩
        · rcases hcase with z | ⟨a', b', z, hb⟩
          · rw [z] at hd1 ⊢
            have hd1 : DpAll K H1 xs [PyData.str "BadNumber", .int 0] := hd1
            cases hd1 with
            | cons x t =>
              cases t with
              | cons y t =>
                cases x; cases y; cases t
                exact .cons (.str _) (.cons (.int _) .nil)
          · rw [z] at hd1 ⊢
            unfold dueOf at hd1 ⊢
            dsimp only at hd1 ⊢
            rw [if_pos hb] at hd1 ⊢
            cases hd1 with
            | cons x t =>
              cases t with
              | cons y t =>
                cases t with
                | cons z t =>
                  cases x; cases y; cases z; cases t
                  exact .cons (.str _) (.cons (.str _) (.cons (.int _) .nil))
      walk_at "go"
      refine w_ix (.inl s1) (by decide) e0 ?_
      walk_at "go"
      refine w_ndec (fun _ => ?_) (fun e => absurd e ez)
      refine w_ret (w_andV ?_)
      refine w_pin (w_cons (w_lamV (g1.tabs htab) (fun f c' H3 g3 nf hf hc => w_cons (w_var rfl (w_nil fun H4 pr lams => ?_))) (fun _ => rfl)))
      refine call H1 (Gr.refl _ _) 0 (.inl rfl) _ (fun H6 g6 => ?_) f c' H3 g3 H4 pr (lams _ (List.mem_cons_self ..) f c' hf hc)
      refine ⟨true, rfl, ?_⟩
      rw [if_pos rfl]
      refine w_pin (w_cons (w_lamV (g6.tabs (g1.tabs htab)) (fun f c' H3 g3 nf hf hc => w_cons (w_var rfl (w_nil fun H4 pr lams => ?_))) (fun _ => rfl)))
      exact call H6 g6 1 (.inr rfl) _ (fun H7 g7 => q H7 ((g1.trans g6).trans g7)) f c' H3 g3 H4 pr (lams _ (List.mem_cons_of_mem _ (List.mem_cons_self ..)) f c' hf hc)
    · -- fine
      obtain ⟨sa, sb, b0⟩ := hv.sm
      obtain ⟨sp, sq, q0⟩ := lowOf_sm sa sb b0
      have hdue : dueOf (some (a, b)) = [.str "fine", .tuple [.int (lowOf a b).1, .int (lowOf a b).2]] := by
        unfold dueOf
        dsimp only
        rw [if_neg (by omega)]
      rw [hdue] at hd1
      have hlow := low_low (a := a) b0
      have hmost : mostOf (lowOf a b).1 (lowOf a b).2 ≤ 60 := Nat.le_trans (most_low a b) h60
      have e0 : xs[0]? = some (.str "fine") := by
        cases hd1 with
        | cons x _ =>
          cases x
          rfl
      obtain ⟨t, e1, ht⟩ : ∃ t, xs[1]? = some (.ref t) ∧ SqT K H1 t [.int (lowOf a b).1, .int (lowOf a b).2] := by
        cases hd1 with
        | cons x r =>
          cases r with
          | cons y r =>
            cases y with
            | tup h5 h6 =>
              refine ⟨_, rfl, ?_⟩
              cases h6 with
              | cons x1 r1 =>
                cases r1 with
                | cons x2 r2 =>
                  cases x1; cases x2; cases r2
                  exact h5
      have hT : ∀ (H' : Hp) (p t : Addr) (Q : VK), SqT K H' p [.int (lowOf a b).1, .int (lowOf a b).2] → SqT K H' t [.int (lowOf a b).1, .int (lowOf a b).2] → (∀ H'', Gr (TT K) H' H'' → Q (.bl true) H'') → spLikeN K (TT K) 4 [.ref p, .ref t] H' Q E0 := by
        intro H' p t Q h1 h2 q
        refine ⟨.ref p, .ref t, .tuple [.int (lowOf a b).1, .int (lowOf a b).2], rfl, .tup (n := 2) fun d hd => ?_, .tup (by show 2 ≤ 10000; decide) fun d hd => ?_, .tup h1 (.cons (.int _) (.cons (.int _) .nil)), .tup h2 (.cons (.int _) (.cons (.int _) .nil)), q⟩
        · simp only [List.mem_cons, List.not_mem_nil, or_false] at hd
          rcases hd with rfl | rfl <;> exact .int _
        · simp only [List.mem_cons, List.not_mem_nil, or_false] at hd
          rcases hd with rfl | rfl <;> exact .int _
      have hS : ∀ (H' : Hp) (z : Str) (Q : VK), (∀ H'', Gr (TT K) H' H'' → Q (.bl true) H'') → spLikeN K (TT K) 4 [.str z, .str z] H' Q E0 := fun H' z Q q => ⟨.str z, .str z, .str z, rfl, .str _, .str _, .str _, .str _, q⟩
      have hR : ∀ (H' : Hp) (v : V) (Q : VK), NumArg K H' v (some ((lowOf a b).1, (lowOf a b).2)) → (∀ p H'', Gr (TT K) H' H'' → SqT K H'' p [.int (lowOf a b).1, .int (lowOf a b).2] → Q (.ref p) H'') → spRead K (TT K) [v] H' Q E0 := by
        intro H' v Q h1 q
        refine ⟨v, _, rfl, h1, fun e => (by cases e), fun a' b' e => ?_⟩
        cases e
        refine ⟨fun h => by omega, fun _ p H'' g h => q p H'' g ?_⟩
        rw [hlow] at h
        exact sqT_of h
      have hN : ∀ (H' : Hp) (v : V) (Q : VK), NumArg K H' v (some ((lowOf a b).1, (lowOf a b).2)) → (∀ H'', Gr (TT K) H' H'' → Q (.str (wordOf (lowOf a b).1 (lowOf a b).2)) H'') → spNumText K (TT K) [v] H' Q E0 := by
        intro H' v Q h1 q
        refine ⟨v, _, rfl, h1, fun e => (by cases e), fun a' b' e => ?_⟩
        cases e
        refine ⟨fun h => by omega, fun _ H'' g => ?_⟩
        rw [hlow]
        exact q H'' g
      walk_at "go"
      refine w_ix (.inl s1) (by decide) e0 ?_
      walk_at "go"
      refine w_callK0 (w_cons (w_var rfl (w_nil ⟨rfl, ?_⟩)))
      refine ⟨v, _, rfl, hv1, fun e => (by cases e), fun a' b' e => ?_⟩
      cases e
      refine ⟨fun h => by omega, fun _ p1 H2 g2 h2 => ?_⟩
      walk_at "go"
      refine ⟨v, _, rfl, Gr.num g2 hv1, fun e => (by cases e), fun a' b' e => ?_⟩
      cases e
      refine ⟨fun h => by omega, fun _ H3 g3 => ?_⟩
      have t1 : SqT K H3 p1 [.int (lowOf a b).1, .int (lowOf a b).2] := g3.sqT (sqT_of h2)
      have g13 : Gr (TT K) H1 H3 := g2.trans g3
      walk_at "go"
      refine w_ix (.inl (g13.sqL s1)) (by decide) e1 ?_
      walk_at "go"
      refine hT H3 p1 t _ t1 (g13.sqT ht) fun H4 g4 => ?_
      have g14 : Gr (TT K) H1 H4 := g13.trans g4
      walk_at "go"
      refine w_ix (.inl (g14.sqL s1)) (by decide) e1 ?_
      walk_at "go"
      refine ⟨t, _, _, rfl, g14.sqT ht, sp, sq, ?_⟩
      walk_at "go"
      refine hS H4 _ _ fun H5 g5 => ?_
      have g15 : Gr (TT K) H1 H5 := g14.trans g5
      walk_at "go"
      refine hR H5 _ _ (num_word q0 sp sq) fun p2 H6 g6 t2 => ?_
      have g16 : Gr (TT K) H1 H6 := g15.trans g6
      walk_at "go"
      refine w_ix (.inl (g16.sqL s1)) (by decide) e1 ?_
      walk_at "go"
      refine hT H6 p2 t _ t2 (g16.sqT ht) fun H7 g7 => ?_
      have g17 : Gr (TT K) H1 H7 := g16.trans g7
      have t17 : SqT K H7 p1 [.int (lowOf a b).1, .int (lowOf a b).2] := (((g4.trans g5).trans g6).trans g7).sqT t1
      walk_at "go"
      refine hR H7 _ _ (.tup t17 q0 sp sq) fun p3 H8 g8 t3 => ?_
      have g18 : Gr (TT K) H1 H8 := g17.trans g8
      walk_at "go"
      refine w_ix (.inl (g18.sqL s1)) (by decide) e1 ?_
      walk_at "go"
      refine hT H8 p3 t _ t3 (g18.sqT ht) fun H9 g9 => ?_
      have g19 : Gr (TT K) H1 H9 := g18.trans g9
      walk_at "go"
      refine hN H9 _ _ (num_word q0 sp sq) fun Ha ga => ?_
      walk_at "go"
      refine hS Ha _ _ fun Hb gb => ?_
      walk_at "go"
      refine hN Hb _ _ (.tup ((((g8.trans g9).trans ga).trans gb).sqT t17) q0 sp sq) fun Hc gc => ?_
      walk_at "go"
      refine hS Hc _ _ fun Hd gd => ?_
      exact q Hd (((((g1.trans g19).trans ga).trans gb).trans gc).trans gd)
end
end K00
end
section
set_option Elab.async false
set_option linter.all false
set_option maxRecDepth 100000
set_option maxHeartbeats 4000000
namespace K00
open PySem PySem.Spec PyProof.Rows L2 LamX U Evl TL L2H HotX LHot LX LV NdefX LW
/-! ### steps, by program -/
local macro_rules | `(tactic| walk_at "kp") => `(tactic| first
  | assumption
  | exact sqA_of (by assumption)
  | exact sqB_of (by assumption)
  | exact sqL_of (by assumption)
  | exact sqT_of (by assumption)
  | exact Or.inl (by assumption)
  | exact Or.inr (by assumption)
  | exact Gr.refl _ _
  | exact GrA.gr (by assumption)
  | (apply Gr.trans ?_ (by first | assumption | exact GrA.gr (by assumption)); walk_at "kp")
  | (apply Gr.xd; (first | assumption | exact GrA.gr (T := []) (by assumption)); walk_at "kp")
  | (apply Gr.sq; (first | assumption | exact GrA.gr (T := []) (by assumption)); walk_at "kp")
  | (apply Gr.sqL; (first | assumption | exact GrA.gr (T := []) (by assumption)); walk_at "kp")
  | (apply Gr.sqT; (first | assumption | exact GrA.gr (T := []) (by assumption)); walk_at "kp")
  | (apply Gr.lst; (first | assumption | exact GrA.gr (T := []) (by assumption)); walk_at "kp")
  | (apply Gr.tup; (first | assumption | exact GrA.gr (T := []) (by assumption)); walk_at "kp"))
local macro_rules | `(tactic| walk_at "s") => `(tactic| first
  | with_reducible first
    | refine w_seq ?_ | refine w_asg ?_ | refine w_gname ?_ | refine w_if ?_ | refine w_ret ?_ | refine w_next ?_ | refine w_drop ?_ | refine w_retN ?_ | refine w_brk ?_ | refine w_cont ?_ | refine w_gsub ?_
    | refine w_op ?_ | refine w_c ?_ | refine w_nil ?_ | refine w_cons ?_ | refine w_cb ?_ | refine w_un ?_
    | refine w_I0 ?_ | refine w_U ?_ | refine w_add ?_ | refine w_test ?_ | refine w_tB ?_ | refine w_tr ?_ | refine w_exn ?_ | refine w_trn ?_ | refine w_and ?_ | refine w_or ?_ | refine w_not ?_ | refine w_andV ?_ | refine w_orV ?_ | refine w_notV ?_ | refine w_ifE ?_
    | refine w_eqI ?_ | refine w_neI ?_ | refine w_eqS ?_ | refine w_neS ?_ | refine w_eqB ?_ | refine w_neB ?_ | refine w_isNo ?_ | refine w_notN ?_
    | refine w_call0 ?_ | refine w_tupK ?_ | refine w_lstK ?_ | refine w_bm ?_ | refine w_nop ?_ | refine w_part ?_ | refine w_exi ?_ | refine w_sl ?_
    | refine w_lcS ?_ | refine w_lcR1 ?_ | refine w_lcR2 ?_ | refine w_lcE ?_ | refine w_frS ?_ | refine w_frR1 ?_ | refine w_frR2 ?_ | refine w_frE ?_ | refine w_frT ?_
    | refine w_tYes ?_ | refine w_lcH ?_ | refine w_callE ?_ | refine w_iteD ?_ | refine w_iteND ?_ | refine w_raise ?_ | refine raK1 ?_ | refine raK2 ?_ | refine w_iteNT ?_ | refine w_iteNF ?_ | refine w_ckw ?_ | refine w_callN ?_ | refine w_m1 ?_ | refine w_yes1 ?_ | refine w_iteT ?_ | refine w_iteF ?_ | refine w_abs ?_ | refine w_max2 ?_ | refine w_max3 ?_ | refine w_min2 ?_ | refine w_intI ?_
  | (with_reducible apply w_var; with_unfolding_all rfl)
  | (with_reducible apply w_lenI; walk_at "kp")
  | (with_reducible apply w_len; walk_at "kp")
  | (with_reducible apply w_sum; walk_at "kp")
  | (with_reducible refine lstK ?_ ?_; exact Nat.le_of_ble_eq_true rfl)
  | (with_reducible refine tupK ?_ ?_; exact Nat.le_of_ble_eq_true rfl)
  | (with_reducible apply w_list; walk_at "kp")
  | (with_reducible apply w_tuple; walk_at "kp")
  | (with_reducible apply w_slI; walk_at "kp")
  | (with_reducible apply w_inI; walk_at "kp")
  | (with_reducible apply w_notInI; walk_at "kp"))
local macro_rules | `(tactic| walk_at "go") => `(tactic| repeat' (walk_at "s"))
variable {K : PySem.W.Frag}
/-- the words of the errors, whether they are refusals, the built-in below -/
def rowsC : List (Str × Bool × Bs) := [("BadNumber", true, .v), ("BadSum", true, .v), ("BadQuotient", true, .v), ("BadLandscape", true, .v), ("BadWell", true, .v), ("BadWall", true, .v), ("BadShape", true, .v), ("BadRoll", true, .v), ("BadOperator", true, .v), ("BadSymbol", true, .v), ("BadStep", true, .v), ("BadPaper", true, .v), ("BadName", true, .v), ("BadScript", true, .v), ("Barred", true, .v), ("Unlike", true, .v), ("HasResidue", true, .v), ("NotKept", true, .v), ("TooMany", true, .v), ("NoSuch", false, .l), ("Ended", false, .r)]
def typesL : List String := ["ValueError", "LookupError", "RuntimeError"]
theorem rows_ok : ∀ q ∈ rowsC, q.1 ∈ words ∧ (∀ x ∈ wordsL, decide (x ∈ overOf q.1) = (q.2.1 && decide (x = "Refused"))) ∧ ∀ T ∈ typesL, bitOf q.1 (Str.ofString T) = (bmOf q.2.2).contains (.type T) := by
  have h : (rowsC.all fun q => decide (q.1 ∈ words) && ((wordsL.all fun x => decide (x ∈ overOf q.1) == (q.2.1 && decide (x = "Refused"))) && typesL.all fun T => bitOf q.1 (Str.ofString T) == (bmOf q.2.2).contains (.type T))) = true := by decide +kernel
  intro q hq
  have := List.all_eq_true.mp h q hq
  simp only [Bool.and_eq_true, decide_eq_true_eq, List.all_eq_true, beq_iff_eq] at this
  exact this
theorem words_row : ∀ q ∈ rowsC, q.1 ∈ wordsL := by
  have h : (rowsC.all fun q => decide (q.1 ∈ wordsL)) = true := by decide +kernel
  exact fun q hq => of_decide_eq_true (List.all_eq_true.mp h q hq)
def IsCls (K : PySem.W.Frag) (C : Addr) : Prop := (PySem.W.clsIn K C).isSome = true ∧ PySem.W.typeIn K (.ref C) = some (.type "type")
theorem isCls_shape {C : Addr} {over : List Value} {b : Bs} (S : Shape K C over b) : IsCls K C := by
  obtain ⟨dd, cd, k0, k1, k2, k3, k5, ho, _⟩ := S.ex
  constructor
  · unfold PySem.W.clsIn
    rw [ho] <;> rfl
  · unfold PySem.W.typeIn
    dsimp only
    rw [ho] <;> rfl
theorem isCls_base {R : Addr} (h : baseB K R = true) : IsCls K R := by
  unfold baseB at h
  split at h
  · rename_i dd cd sl ho
    constructor
    · unfold PySem.W.clsIn
      rw [ho] <;> rfl
    · unfold PySem.W.typeIn
      dsimp only
      rw [ho] <;> rfl
  · cases h
theorem nod_inj {α β : Type} {f : α → β} : ∀ {l : List α}, (l.map f).Nodup → ∀ {x y : α}, x ∈ l → y ∈ l → f x = f y → x = y
  | [], _, _, _, h, _, _ => by cases h
  | a :: l, h, x, y, hx, hy, e => by
    rw [List.map_cons, List.nodup_cons] at h
    rcases List.mem_cons.mp hx with rfl | hx'
    · rcases List.mem_cons.mp hy with rfl | hy'
      · rfl
      · exact absurd (e ▸ List.mem_map_of_mem hy') h.1
    · rcases List.mem_cons.mp hy with rfl | hy'
      · exact absurd (e.symm ▸ List.mem_map_of_mem hx') h.1
      · exact nod_inj h.2 hx' hy' e
theorem meta_ok : ∀ T ∈ typesL, PySem.W.kitMeta T = true := by
  intro T hT
  simp only [typesL, List.mem_cons, List.not_mem_nil, or_false] at hT
  rcases hT with rfl | rfl | rfl <;> decide +kernel
theorem bm_ref (b : Bs) (C : Addr) : (bmOf b).contains (.ref C) = false := by
  cases b <;> (simp only [bmOf, List.contains_cons, List.contains_nil]; rfl)
theorem kind_ok (hnod : nodB K = true) (hc : ∀ x ∈ wordsL, IsCls K (He.ga K x)) {q : Str × Bool × Bs} (hq : q ∈ rowsC) (S : Shape K (He.ga K q.1) (if q.2.1 = true then [.ref (He.ga K "Refused")] else []) q.2.2) : KindC K (He.ga K q.1) q.1 := by
  obtain ⟨r1, r2, r3⟩ := rows_ok q hq
  have hw := words_row q hq
  have nod : (wordsL.map fun c => He.ga K c).Nodup := of_decide_eq_true hnod
  obtain ⟨dd, cd, k0, k1, k2, k3, k5, ho, hm, _, _, _⟩ := S.ex
  have hcls : PySem.W.clsIn K (He.ga K q.1) = some cd := by unfold PySem.W.clsIn; rw [ho]
  have hmro : ∀ v : Value, PySem.W.mroIn K (He.ga K q.1) v = some (cd.mro.contains v) := fun v => by
    unfold PySem.W.mroIn
    rw [hcls]
    show (if cd.mro.isEmpty = true then none else some (cd.mro.contains v)) = _
    rw [hm] <;> rfl
  refine ⟨r1, fun m hm2 => ?_⟩
  unfold mks at hm2
  rcases List.mem_append.mp hm2 with h | h
  · obtain ⟨x, hx, rfl⟩ := List.mem_map.mp h
    have hx : x ∈ wordsL := hx
    dsimp only
    unfold PySem.W.kitOne
    by_cases e : x = q.1
    · subst e
      rw [if_pos (beq_self_eq_true _)]
      unfold bitOf
      rw [decide_eq_true rfl] <;> rfl
    · have ne : He.ga K x ≠ He.ga K q.1 := fun z => e (nod_inj nod hx hw z)
      have nb : (Value.ref (He.ga K q.1) == Value.ref (He.ga K x)) = false := by
        rw [beq_eq_false_iff_ne]
        intro z
        exact ne (Value.ref.inj z).symm
      rw [if_neg (by rw [nb]; decide)]
      obtain ⟨c1, c2⟩ := hc x hx
      show (if ((PySem.W.clsIn K (He.ga K x)).isSome && PySem.W.typeIn K (.ref (He.ga K x)) == some (.type "type")) = true then PySem.W.subIn K (.ref (He.ga K q.1)) (.ref (He.ga K x)) else none) = _
      rw [c1, c2, if_pos (by rfl)]
      show PySem.W.mroIn K (He.ga K q.1) (.ref (He.ga K x)) = _
      rw [hmro, hm]
      unfold bitOf
      rw [decide_eq_false e, Bool.false_or, r2 x hx, List.contains_cons]
      have nb2 : (Value.ref (He.ga K x) == Value.ref (He.ga K q.1)) = false := by
        rw [beq_eq_false_iff_ne]
        intro z
        exact ne (Value.ref.inj z)
      rw [nb2, Bool.false_or]
      cases q.2.1 with
      | false =>
        show some ((bmOf q.2.2).contains (.ref (He.ga K x))) = some (false && decide (x = "Refused"))
        rw [bm_ref]
        rfl
      | true =>
        show some ((Value.ref (He.ga K "Refused") :: bmOf q.2.2).contains (.ref (He.ga K x))) = some (true && decide (x = "Refused"))
        rw [List.contains_cons, bm_ref, Bool.or_false, Bool.true_and]
        by_cases ex : x = "Refused"
        · rw [ex, beq_self_eq_true, decide_eq_true rfl]
        · rw [decide_eq_false ex]
          have hr : ("Refused" : Str) ∈ wordsL := by
            have : wordsL.contains "Refused" = true := by decide +kernel
            simpa using this
          have : (Value.ref (He.ga K x) == Value.ref (He.ga K "Refused")) = false := by
            rw [beq_eq_false_iff_ne]
            intro z
            have z2 : He.ga K x = He.ga K "Refused" := Value.ref.inj z
            exact ex (nod_inj nod hx hr z2)
          rw [this]
  · have key : ∀ T ∈ typesL, PySem.W.kitOne K (.ref (He.ga K q.1)) (.type T) = some (bitOf q.1 (Str.ofString T)) := fun T hT => by
      unfold PySem.W.kitOne
      rw [if_neg (by
        have : (Value.ref (He.ga K q.1) == Value.type T) = false := by
          rw [beq_eq_false_iff_ne]
          intro z
          cases z
        rw [this]; decide)]
      show (if PySem.W.kitMeta T = true then PySem.W.subIn K (.ref (He.ga K q.1)) (.type T) else none) = _
      rw [if_pos (meta_ok T hT)]
      show PySem.W.mroIn K (He.ga K q.1) (.type T) = _
      rw [hmro, hm, r3 T hT, List.contains_cons]
      have : (Value.type T == Value.ref (He.ga K q.1)) = false := by
        rw [beq_eq_false_iff_ne]
        intro z
        cases z
      rw [this, Bool.false_or]
      cases q.2.1 with
      | false => rfl
      | true =>
        show some ((Value.ref (He.ga K "Refused") :: bmOf q.2.2).contains (.type T)) = _
        rw [List.contains_cons]
        have : (Value.type T == Value.ref (He.ga K "Refused")) = false := by
          rw [beq_eq_false_iff_ne]
          intro z
          cases z
        rw [this, Bool.false_or]
    simp only [List.mem_cons, List.not_mem_nil, or_false] at h
    rcases h with rfl | rfl | rfl
    · exact key "ValueError" (by simp [typesL])
    · exact key "LookupError" (by simp [typesL])
    · exact key "RuntimeError" (by simp [typesL])
end K00
end
section
set_option Elab.async false
set_option linter.all false
set_option maxRecDepth 100000
set_option maxHeartbeats 4000000
namespace K00
open PySem PySem.Spec PyProof.Rows L2 LamX U Evl TL L2H HotX LHot LX LV NdefX LW
/-! ### steps, by program -/
local macro_rules | `(tactic| walk_at "kp") => `(tactic| first
  | assumption
  | exact sqA_of (by assumption)
  | exact sqB_of (by assumption)
  | exact sqL_of (by assumption)
  | exact sqT_of (by assumption)
  | exact Or.inl (by assumption)
  | exact Or.inr (by assumption)
  | exact Gr.refl _ _
  | exact GrA.gr (by assumption)
  | (apply Gr.trans ?_ (by first | assumption | exact GrA.gr (by assumption)); walk_at "kp")
  | (apply Gr.xd; (first | assumption | exact GrA.gr (T := []) (by assumption)); walk_at "kp")
  | (apply Gr.sq; (first | assumption | exact GrA.gr (T := []) (by assumption)); walk_at "kp")
  | (apply Gr.sqL; (first | assumption | exact GrA.gr (T := []) (by assumption)); walk_at "kp")
  | (apply Gr.sqT; (first | assumption | exact GrA.gr (T := []) (by assumption)); walk_at "kp")
  | (apply Gr.lst; (first | assumption | exact GrA.gr (T := []) (by assumption)); walk_at "kp")
  | (apply Gr.tup; (first | assumption | exact GrA.gr (T := []) (by assumption)); walk_at "kp"))
local macro_rules | `(tactic| walk_at "s") => `(tactic| first
  | with_reducible first
    | refine w_seq ?_ | refine w_asg ?_ | refine w_gname ?_ | refine w_if ?_ | refine w_ret ?_ | refine w_next ?_ | refine w_drop ?_ | refine w_retN ?_ | refine w_brk ?_ | refine w_cont ?_ | refine w_gsub ?_
    | refine w_op ?_ | refine w_c ?_ | refine w_nil ?_ | refine w_cons ?_ | refine w_cb ?_ | refine w_un ?_
    | refine w_I0 ?_ | refine w_U ?_ | refine w_add ?_ | refine w_test ?_ | refine w_tB ?_ | refine w_tr ?_ | refine w_exn ?_ | refine w_trn ?_ | refine w_and ?_ | refine w_or ?_ | refine w_not ?_ | refine w_andV ?_ | refine w_orV ?_ | refine w_notV ?_ | refine w_ifE ?_
    | refine w_eqI ?_ | refine w_neI ?_ | refine w_eqS ?_ | refine w_neS ?_ | refine w_eqB ?_ | refine w_neB ?_ | refine w_isNo ?_ | refine w_notN ?_
    | refine w_call0 ?_ | refine w_tupK ?_ | refine w_lstK ?_ | refine w_bm ?_ | refine w_nop ?_ | refine w_part ?_ | refine w_exi ?_ | refine w_sl ?_
    | refine w_lcS ?_ | refine w_lcR1 ?_ | refine w_lcR2 ?_ | refine w_lcE ?_ | refine w_frS ?_ | refine w_frR1 ?_ | refine w_frR2 ?_ | refine w_frE ?_ | refine w_frT ?_
    | refine w_tYes ?_ | refine w_lcH ?_ | refine w_callE ?_ | refine w_iteD ?_ | refine w_iteND ?_ | refine w_raise ?_ | refine raK1 ?_ | refine raK2 ?_ | refine w_iteNT ?_ | refine w_iteNF ?_ | refine w_ckw ?_ | refine w_callN ?_ | refine w_m1 ?_ | refine w_yes1 ?_ | refine w_iteT ?_ | refine w_iteF ?_ | refine w_abs ?_ | refine w_max2 ?_ | refine w_max3 ?_ | refine w_min2 ?_ | refine w_intI ?_
  | (with_reducible apply w_var; with_unfolding_all rfl)
  | (with_reducible apply w_lenI; walk_at "kp")
  | (with_reducible apply w_len; walk_at "kp")
  | (with_reducible apply w_sum; walk_at "kp")
  | (with_reducible refine lstK ?_ ?_; exact Nat.le_of_ble_eq_true rfl)
  | (with_reducible refine tupK ?_ ?_; exact Nat.le_of_ble_eq_true rfl)
  | (with_reducible apply w_list; walk_at "kp")
  | (with_reducible apply w_tuple; walk_at "kp")
  | (with_reducible apply w_slI; walk_at "kp")
  | (with_reducible apply w_inI; walk_at "kp")
  | (with_reducible apply w_notInI; walk_at "kp"))
local macro_rules | `(tactic| walk_at "go") => `(tactic| repeat' (walk_at "s"))
variable {K : PySem.W.Frag} {T : List (Addr × Str)}
theorem val_lt {z : Str} (h : isDig z = true) {k : Nat} (hk : z.length ≤ k) : (valOf z).natAbs < 10 ^ k := by
  have e := dig_back h
  have l := dg_lt (NumText.digitsVal (tl z))
  rw [← e] at l
  unfold valOf
  rw [Int.natAbs_natCast]
  exact Nat.lt_of_lt_of_le l (Nat.pow_le_pow_right (by decide) hk)
theorem parts_sm {z : Str} (hz : z.length ≤ 100) {a b : Int} (h : partsOf z = some (a, b)) : Sm a ∧ Sm b ∧ 0 < b := by
  have lb := len_body z
  obtain ⟨l1, l2⟩ := len_part (bodyOf z)
  unfold partsOf at h
  generalize Txt.partition (bodyOf z) "/" = pt at *
  obtain ⟨hd, sl, tail⟩ := pt
  dsimp only at *
  have big : ∀ n : Nat, n < 10 ^ 100 → n < 10 ^ 130 := fun n hn => Nat.lt_trans hn (by decide +kernel)
  have sg : isDig hd = true → Sm (sgOf z hd) := fun hh => by
    have := val_lt hh (k := 100) (by omega)
    unfold sgOf Sm
    split
    · rw [Int.natAbs_neg]; exact big _ this
    · exact big _ this
  split at h
  · rename_i h1
    split at h
    · cases h
      exact ⟨sg h1, sm1, by decide⟩
    · split at h
      · rename_i h3
        cases h
        refine ⟨sg h1, big _ (val_lt h3.1 (k := 100) (by omega)), ?_⟩
        have e := dig_back h3.1
        have : NumText.digitsVal (tl tail) ≠ 0 := fun z0 => by
          rw [z0, dg_zero] at e
          exact h3.2 e
        unfold valOf
        omega
      · cases h
  · cases h
theorem Ok.app {a b : Str} (ha : Ok a) (hb : Ok b) : Ok (a ++ b) := fun c hc => by
  rw [tl_append] at hc
  rcases List.mem_append.mp hc with h | h
  · exact ha c h
  · exact hb c h
theorem ok_dg (n : Nat) : Ok (dg n) := fun c hc => by
  rw [dg_tl] at hc
  have := numL_digits n c hc
  omega
theorem ok_of {z : Str} (h : ((tl z).all fun c => decide (c < 1114112)) = true) : Ok z := fun c hc => of_decide_eq_true (List.all_eq_true.mp h c hc)
def spJar1 (K : PySem.W.Frag) : Sp := fun vs H Q _ => ∃ J, vs = [.ref J] ∧ Tabs (TT K) H ∧ Jar K H J ∧ ∀ H', Gr (TT K) H H' → Q (.bl true) H'
theorem rd_law_bent : ∀ vs H Q (E : XK), spJar1 K vs H Q E → t__law_bent K (spPick K) (spDraw K) (spAsked K) (spReads K (TT K)) (E_ Q) (start ["jar", "word", "spot", "sign"] vs) H := by
  intro vs H Q E h
  obtain ⟨J, rfl, htab, hj, q⟩ := h
  unfold t__law_bent
  have ls := szl
  walk_at "go"
  intro m1 H1 n1 g1 h1
  refine ⟨J, m1, _, rfl, (g1 (TT K)).jar hj, sqA_of h1, Nat.zero_lt_succ _, Nat.le_of_ble_eq_true rfl, fun x hx => ?_⟩
  obtain ⟨z1, rfl, l1, o1⟩ : ∃ z, x = .str z ∧ z.length ≤ 1 ∧ Ok z := by
    simp only [List.mem_cons, List.not_mem_nil, or_false] at hx
    rcases hx with rfl | rfl
    · exact ⟨_, rfl, by decide +kernel, ok_of (by decide +kernel)⟩
    · exact ⟨_, rfl, by decide +kernel, ok_of (by decide +kernel)⟩
  have hj1 := (g1 (TT K)).jar hj
  walk_at "go"
  refine ⟨J, 1000, rfl, hj1, by decide, by decide, fun d d0 d1 => ?_⟩
  obtain ⟨n, rfl⟩ := Int.eq_ofNat_of_zero_le d0
  have sn : Sm ((n : Nat) : Int) := by
    unfold Sm
    rw [Int.natAbs_natCast]
    exact Nat.lt_trans (by omega : n < 1000) (by decide +kernel)
  have ln : (tx ((n : Nat) : Int)).length ≤ 3 := dg_le (by decide) (by omega)
  walk_at "go"
  refine w_strS sn ?_
  walk_at "go"
  refine w_adds (by omega) ?_
  walk_at "go"
  refine ⟨J, 30, rfl, hj1, by decide, by decide, fun d2 e0 e1 => ?_⟩
  obtain ⟨n2, rfl⟩ := Int.eq_ofNat_of_zero_le e0
  have sn2 : Sm ((n2 : Nat) : Int) := by
    unfold Sm
    rw [Int.natAbs_natCast]
    exact Nat.lt_trans (by omega : n2 < 1000) (by decide +kernel)
  have ln2 : (tx ((n2 : Nat) : Int)).length ≤ 2 := dg_le (by decide) (by omega)
  have lsl : ("/" : Str).length = 1 := by decide +kernel
  walk_at "go"
  refine w_strS sn2 ?_
  walk_at "go"
  refine w_adds (by omega) ?_
  walk_at "go"
  intro m2 H2 n2' g2 h2
  have hj2 := (g2 (TT K)).jar hj1
  refine ⟨J, m2, _, rfl, hj2, sqA_of h2, Nat.zero_lt_succ _, Nat.le_of_ble_eq_true rfl, fun x hx => ?_⟩
  obtain ⟨z2, rfl, l2, o2⟩ : ∃ z, x = .str z ∧ z.length ≤ 3 ∧ Ok z := by
    simp only [List.mem_cons, List.not_mem_nil, or_false] at hx
    rcases hx with rfl | rfl
    · exact ⟨_, rfl, by decide +kernel, ok_of (by decide +kernel)⟩
    · exact ⟨_, rfl, by rw [len_app]; omega, (ok_of (by decide +kernel)).app (ok_dg n2)⟩
  walk_at "go"
  refine w_adds (by rw [len_app]; omega) ?_
  have lw : (z1 ++ tx ((n : Nat) : Int) ++ z2).length ≤ 7 := by rw [len_app, len_app]; omega
  have ow : Ok (z1 ++ tx ((n : Nat) : Int) ++ z2) := (o1.app (ok_dg n)).app o2
  generalize z1 ++ tx ((n : Nat) : Int) ++ z2 = wd at *
  walk_at "go"
  refine w_lenS (by omega) ?_
  walk_at "go"
  refine ⟨J, _, rfl, hj2, by omega, by omega, fun sp s0 s1 => ?_⟩
  walk_at "go"
  intro m3 H3 n3 g3 h3
  have hj3 := (g3 (TT K)).jar hj2
  refine ⟨J, m3, _, rfl, hj3, sqA_of h3, Nat.zero_lt_succ _, Nat.le_of_ble_eq_true rfl, fun x hx => ?_⟩
  obtain ⟨z3, rfl, l3, o3⟩ : ∃ z, x = .str z ∧ z.length ≤ 1 ∧ Ok z := by
    simp only [List.mem_cons, List.not_mem_nil, or_false] at hx
    rcases hx with rfl | rfl | rfl | rfl | rfl | rfl | rfl | rfl | rfl | rfl | rfl | rfl | rfl | rfl <;> exact ⟨_, rfl, by decide +kernel, ok_of (by decide +kernel)⟩
  walk_at "go"
  refine w_slZ (by omega) ?_
  have c1 := cutS_length wd none (some sp)
  walk_at "go"
  refine w_adds (by omega) ?_
  walk_at "go"
  refine ⟨J, 2, rfl, hj3, by decide, by decide, fun d3 f0 f1 => ?_⟩
  walk_at "go"
  refine w_slZ (by omega) ?_
  have c2 := cutS_length wd (some (sp + d3)) none
  walk_at "go"
  refine w_adds (by rw [len_app]; omega) ?_
  have lw2 : (cutS wd none (some sp) ++ z3 ++ cutS wd (some (sp + d3)) none).length ≤ 100 := by rw [len_app, len_app]; omega
  have ow2 : Ok (cutS wd none (some sp) ++ z3 ++ cutS wd (some (sp + d3)) none) := ((ow.cut _ _).app o3).app (ow.cut _ _)
  generalize cutS wd none (some sp) ++ z3 ++ cutS wd (some (sp + d3)) none = w2 at *
  have g03 : Gr (TT K) H H3 := ((g1 (TT K)).trans (g2 (TT K))).trans (g3 (TT K))
  have num : ∀ H', NumArg K H' (.str w2) (partsOf w2) := fun H' => .txt (by omega) fun a b e => parts_sm lw2 e
  walk_at "go"
  refine ⟨w2, rfl, by omega, ow2, fun e H4 g4 => ?_, fun a b e p H4 g4 h4 => ?_⟩
  · walk_at "go"
    refine ⟨_, _, partsOf w2, rfl, g4.tabs (g03.tabs htab), num H4, .inl ⟨rfl, e⟩, fun H5 g5 => q H5 ((g03.trans g4).trans g5)⟩
  · walk_at "go"
    obtain ⟨sa, sb, b0⟩ := parts_sm lw2 e
    exact ⟨_, _, partsOf w2, rfl, g4.tabs (g03.tabs htab), num H4, .inr ⟨p, a, b, rfl, h4, e, sa, sb, b0⟩, fun H5 g5 => q H5 ((g03.trans g4).trans g5)⟩
end K00
end
section
set_option Elab.async false
set_option linter.all false
set_option maxRecDepth 100000
set_option maxHeartbeats 4000000
namespace K00
open PySem PySem.Spec PyProof.Rows L2 LamX U Evl TL L2H HotX LHot LX LV NdefX LW
/-! ### steps, by program -/
local macro_rules | `(tactic| walk_at "kp") => `(tactic| first
  | assumption
  | exact sqA_of (by assumption)
  | exact sqB_of (by assumption)
  | exact sqL_of (by assumption)
  | exact sqT_of (by assumption)
  | exact Or.inl (by assumption)
  | exact Or.inr (by assumption)
  | exact Gr.refl _ _
  | exact GrA.gr (by assumption)
  | (apply Gr.trans ?_ (by first | assumption | exact GrA.gr (by assumption)); walk_at "kp")
  | (apply Gr.xd; (first | assumption | exact GrA.gr (T := []) (by assumption)); walk_at "kp")
  | (apply Gr.sq; (first | assumption | exact GrA.gr (T := []) (by assumption)); walk_at "kp")
  | (apply Gr.sqL; (first | assumption | exact GrA.gr (T := []) (by assumption)); walk_at "kp")
  | (apply Gr.sqT; (first | assumption | exact GrA.gr (T := []) (by assumption)); walk_at "kp")
  | (apply Gr.lst; (first | assumption | exact GrA.gr (T := []) (by assumption)); walk_at "kp")
  | (apply Gr.tup; (first | assumption | exact GrA.gr (T := []) (by assumption)); walk_at "kp"))
local macro_rules | `(tactic| walk_at "s") => `(tactic| first
  | with_reducible first
    | refine w_seq ?_ | refine w_asg ?_ | refine w_gname ?_ | refine w_if ?_ | refine w_ret ?_ | refine w_next ?_ | refine w_drop ?_ | refine w_retN ?_ | refine w_brk ?_ | refine w_cont ?_ | refine w_gsub ?_
    | refine w_op ?_ | refine w_c ?_ | refine w_nil ?_ | refine w_cons ?_ | refine w_cb ?_ | refine w_un ?_
    | refine w_I0 ?_ | refine w_U ?_ | refine w_add ?_ | refine w_test ?_ | refine w_tB ?_ | refine w_tr ?_ | refine w_exn ?_ | refine w_trn ?_ | refine w_and ?_ | refine w_or ?_ | refine w_not ?_ | refine w_andV ?_ | refine w_orV ?_ | refine w_notV ?_ | refine w_ifE ?_
    | refine w_eqI ?_ | refine w_neI ?_ | refine w_eqS ?_ | refine w_neS ?_ | refine w_eqB ?_ | refine w_neB ?_ | refine w_isNo ?_ | refine w_notN ?_
    | refine w_call0 ?_ | refine w_tupK ?_ | refine w_lstK ?_ | refine w_bm ?_ | refine w_nop ?_ | refine w_part ?_ | refine w_exi ?_ | refine w_sl ?_
    | refine w_lcS ?_ | refine w_lcR1 ?_ | refine w_lcR2 ?_ | refine w_lcE ?_ | refine w_frS ?_ | refine w_frR1 ?_ | refine w_frR2 ?_ | refine w_frE ?_ | refine w_frT ?_
    | refine w_tYes ?_ | refine w_lcH ?_ | refine w_callE ?_ | refine w_iteD ?_ | refine w_iteND ?_ | refine w_raise ?_ | refine raK1 ?_ | refine raK2 ?_ | refine w_iteNT ?_ | refine w_iteNF ?_ | refine w_ckw ?_ | refine w_callN ?_ | refine w_m1 ?_ | refine w_yes1 ?_ | refine w_iteT ?_ | refine w_iteF ?_ | refine w_abs ?_ | refine w_max2 ?_ | refine w_max3 ?_ | refine w_min2 ?_ | refine w_intI ?_
  | (with_reducible apply w_var; with_unfolding_all rfl)
  | (with_reducible apply w_lenI; walk_at "kp")
  | (with_reducible apply w_len; walk_at "kp")
  | (with_reducible apply w_sum; walk_at "kp")
  | (with_reducible refine lstK ?_ ?_; exact Nat.le_of_ble_eq_true rfl)
  | (with_reducible refine tupK ?_ ?_; exact Nat.le_of_ble_eq_true rfl)
  | (with_reducible apply w_list; walk_at "kp")
  | (with_reducible apply w_tuple; walk_at "kp")
  | (with_reducible apply w_slI; walk_at "kp")
  | (with_reducible apply w_inI; walk_at "kp")
  | (with_reducible apply w_notInI; walk_at "kp"))
local macro_rules | `(tactic| walk_at "go") => `(tactic| repeat' (walk_at "s"))
variable {K : PySem.W.Frag} {T : List (Addr × Str)}
theorem num_txt {H : Hp} {z : Str} {a b : Int} (e : partsOf z = some (a, b)) (l : z.length ≤ 640) (ha : Sm a) (hb : Sm b) (h0 : 0 < b) : NumArg K H (.str z) (some (a, b)) := by
  have := NumArg.txt (K := K) (H := H) l (fun a' b' e' => by
    rw [e] at e'
    cases e'
    exact ⟨ha, hb, h0⟩)
  rw [e] at this
  exact this
theorem asked_of {H : Hp} {v : V} {p : Addr} {a b : Int} {Q : VK} {E : XK} (htab : Tabs (TT K) H) (hn : NumArg K H v (some (a, b))) (hp : SqT K H p [.int a, .int b]) (q : ∀ H', Gr (TT K) H H' → Q (.bl true) H') : spAsked K [v, .ref p] H Q E := by
  obtain ⟨ha, hb, h0⟩ := hn.sm
  exact ⟨v, .ref p, _, rfl, htab, hn, .inr ⟨p, a, b, rfl, hp, rfl, ha, hb, h0⟩, q⟩
theorem mul_sm {x s : Int} (hx : x.natAbs < 10 ^ 62) (hs : s.natAbs < 10 ^ 62) : Sm (x * s) := by
  unfold Sm
  rw [Int.natAbs_mul]
  have h := Nat.mul_lt_mul'' hx hs
  exact Nat.lt_trans h (by decide +kernel)
theorem mul_ok {x s : Int} (hx : x.natAbs < 10 ^ 62) (hs : s.natAbs < 10 ^ 62) : CMulW x s :=
  wide_mul (a := 210) (b := 210) (Nat.lt_trans hx (by decide +kernel)) (Nat.lt_trans hs (by decide +kernel)) (by decide) (by decide) (by decide)
theorem sm_62 {x : Int} (hx : x.natAbs < 10 ^ 62) : Sm x := Nat.lt_trans hx (by decide +kernel)
theorem w_strT {i : Int} {H : Hp} {Q : VK} (h : Sm i) (q : ∀ z, z = tx i → z.length ≤ 131 → Q (.str z) H) : uStr [.int i] H Q := w_strS h (q _ rfl (tx_len h))
theorem rd_law_forms : ∀ vs H Q (E : XK), spJar1 K vs H Q E → t__law_forms K (spInteger K (TT K)) (spPick K) (spDraw K) (spAsked K) (E_ Q) (start ["jar", "x", "y", "s", "sign"] vs) H := by
  intro vs H Q E h
  obtain ⟨J, rfl, htab, hj, q⟩ := h
  unfold t__law_forms
  have ls := szl
  have e62 : (10 : Int) ^ 62 = ((10 ^ 62 : Nat) : Int) := by decide +kernel
  have nat62 : ∀ n : Int, 1 ≤ n → n < 10 ^ 62 → n.natAbs < 10 ^ 62 := fun n h1 h2 => by
    rw [e62] at h2
    omega
  -- what follows the draws
  have rest : ∀ (x y s : Int) (H3 : Hp), Gr (TT K) H H3 → x.natAbs < 10 ^ 62 → 1 ≤ y → y.natAbs < 10 ^ 62 → 1 ≤ s → s.natAbs < 10 ^ 62 →
      (tSeq (tAsg (tIf (tTest (tOp qLt (tVar 1) (tC (.int 0)))) (tC (.str "-")) (tC (.str ""))) (gName 4))
      (tSeq (tIfS (tOr (tNot (L2.tB (tCall (spAsked K) [] E0 (tCons (tTup (tCons (tVar 1) (tCons (tVar 2) tNil))) (tCons (tTup (tCons (tVar 1) (tCons (tVar 2) tNil))) tNil))))) (tOr (tNot (L2.tB (tCall (spAsked K) [] E0 (tCons (tTup (tCons (tOp qMulW (tVar 1) (tVar 3)) (tCons (tOp qMulW (tVar 2) (tVar 3)) tNil))) (tCons (tTup (tCons (tOp qMulW (tVar 1) (tVar 3)) (tCons (tOp qMulW (tVar 2) (tVar 3)) tNil))) tNil))))) (tNot (L2.tB (tCall (spAsked K) [] E0 (tCons (tVar 1) (tCons (tTup (tCons (tVar 1) (tCons (tC (.int 1)) tNil))) tNil))))))) (tRet (tC (.bl false))) tNext)
      (tSeq (tIfS (tOr (tNot (L2.tB (tCall (spAsked K) [] E0 (tCons (tOp (uAdd K) (tVar 4) (tCB (uStr) (tCons (tCB (uAbs) (tCons (tVar 1) tNil)) tNil))) (tCons (tTup (tCons (tVar 1) (tCons (tC (.int 1)) tNil))) tNil))))) (tNot (L2.tB (tCall (spAsked K) [] E0 (tCons (tOp (uAdd K) (tOp (uAdd K) (tCB (uStr) (tCons (tOp qMulW (tVar 1) (tVar 3)) tNil)) (tC (.str "/"))) (tCB (uStr) (tCons (tOp qMulW (tVar 2) (tVar 3)) tNil))) (tCons (tTup (tCons (tOp qMulW (tVar 1) (tVar 3)) (tCons (tOp qMulW (tVar 2) (tVar 3)) tNil))) tNil)))))) (tRet (tC (.bl false))) tNext)
      (tRet (tCall (spAsked K) [] E0 (tCons (tOp (uAdd K) (tOp (uAdd K) (tOp (uAdd K) (tC (.str "-")) (tCB (uStr) (tCons (tCB (uAbs) (tCons (tVar 1) tNil)) tNil))) (tC (.str "/"))) (tCB (uStr) (tCons (tVar 2) tNil))) (tCons (tTup (tCons (tOp qSub (tC (.int 0)) (tCB (uAbs) (tCons (tVar 1) tNil))) (tCons (tVar 2) tNil))) tNil))))))) (E_ Q) [some (.ref J), some (.int x), some (.int y), some (.int s), none] H3 := by
    intro x y s H3 g03 hx y1 hy s1 hs
    have sx := sm_62 hx
    have sy := sm_62 hy
    have xs := mul_sm hx hs
    have ys := mul_sm hy hs
    have y0 : 0 < y * s := Int.mul_pos (by omega) (by omega)
    have ax : Sm ((x.natAbs : Nat) : Int) := by unfold Sm; rw [Int.natAbs_natCast]; exact sx
    have nx : Sm (0 - ((x.natAbs : Nat) : Int)) := by
      unfold Sm
      have : (0 - ((x.natAbs : Nat) : Int)).natAbs = x.natAbs := by omega
      rw [this]; exact sx
    have lsl : ("/" : Str).length = 1 := by decide +kernel
    have lmi : ("-" : Str).length = 1 := by decide +kernel
    have lem : ("" : Str).length = 0 := by decide +kernel
    have ty : ∀ y : Int, 0 < y → tx y = dg y.natAbs := fun y h => by
      obtain ⟨n, rfl⟩ := Int.eq_ofNat_of_zero_le (show 0 ≤ y by omega)
      rfl
    have cy : ∀ y : Int, 0 < y → ((y.natAbs : Nat) : Int) = y := fun y h => by omega
    have tab : ∀ H', Gr (TT K) H3 H' → Tabs (TT K) H' := fun H' g => g.tabs (g03.tabs htab)
    -- behind the sign
    have fin : ∀ z4 : Str, z4 ++ tx ((x.natAbs : Nat) : Int) = tx x → z4.length ≤ 1 →
      (tSeq (tIfS (tOr (tNot (L2.tB (tCall (spAsked K) [] E0 (tCons (tTup (tCons (tVar 1) (tCons (tVar 2) tNil))) (tCons (tTup (tCons (tVar 1) (tCons (tVar 2) tNil))) tNil))))) (tOr (tNot (L2.tB (tCall (spAsked K) [] E0 (tCons (tTup (tCons (tOp qMulW (tVar 1) (tVar 3)) (tCons (tOp qMulW (tVar 2) (tVar 3)) tNil))) (tCons (tTup (tCons (tOp qMulW (tVar 1) (tVar 3)) (tCons (tOp qMulW (tVar 2) (tVar 3)) tNil))) tNil))))) (tNot (L2.tB (tCall (spAsked K) [] E0 (tCons (tVar 1) (tCons (tTup (tCons (tVar 1) (tCons (tC (.int 1)) tNil))) tNil))))))) (tRet (tC (.bl false))) tNext)
      (tSeq (tIfS (tOr (tNot (L2.tB (tCall (spAsked K) [] E0 (tCons (tOp (uAdd K) (tVar 4) (tCB (uStr) (tCons (tCB (uAbs) (tCons (tVar 1) tNil)) tNil))) (tCons (tTup (tCons (tVar 1) (tCons (tC (.int 1)) tNil))) tNil))))) (tNot (L2.tB (tCall (spAsked K) [] E0 (tCons (tOp (uAdd K) (tOp (uAdd K) (tCB (uStr) (tCons (tOp qMulW (tVar 1) (tVar 3)) tNil)) (tC (.str "/"))) (tCB (uStr) (tCons (tOp qMulW (tVar 2) (tVar 3)) tNil))) (tCons (tTup (tCons (tOp qMulW (tVar 1) (tVar 3)) (tCons (tOp qMulW (tVar 2) (tVar 3)) tNil))) tNil)))))) (tRet (tC (.bl false))) tNext)
      (tRet (tCall (spAsked K) [] E0 (tCons (tOp (uAdd K) (tOp (uAdd K) (tOp (uAdd K) (tC (.str "-")) (tCB (uStr) (tCons (tCB (uAbs) (tCons (tVar 1) tNil)) tNil))) (tC (.str "/"))) (tCB (uStr) (tCons (tVar 2) tNil))) (tCons (tTup (tCons (tOp qSub (tC (.int 0)) (tCB (uAbs) (tCons (tVar 1) tNil))) (tCons (tVar 2) tNil))) tNil)))))) (E_ Q) [some (.ref J), some (.int x), some (.int y), some (.int s), some (.str z4)] H3 := by
      intro z4 ez lz
      walk_at "go"
      intro p1 H4 n4 g4 h4
      walk_at "go"
      intro p2 H5 n5 g5 h5
      have G5 : Gr (TT K) H3 H5 := (g4 (TT K)).trans (g5 (TT K))
      walk_at "go"
      refine asked_of (tab H5 G5) (.tup (sqT_of ((g5 (TT K)).tup h4)) (by omega) sx sy) (sqT_of h5) fun H6 g6 => ?_
      have G6 := G5.trans g6
      walk_at "go"
      refine w_I (mul_ok hx hs) ?_
      walk_at "go"
      refine w_I (mul_ok hy hs) ?_
      walk_at "go"
      intro p3 H7 n7 g7 h7
      walk_at "go"
      refine w_I (mul_ok hx hs) ?_
      walk_at "go"
      refine w_I (mul_ok hy hs) ?_
      walk_at "go"
      intro p4 H8 n8 g8 h8
      have G8 : Gr (TT K) H3 H8 := (G6.trans (g7 (TT K))).trans (g8 (TT K))
      walk_at "go"
      refine asked_of (tab H8 G8) (.tup (sqT_of ((g8 (TT K)).tup h7)) y0 xs ys) (sqT_of h8) fun H9 g9 => ?_
      have G9 := G8.trans g9
      walk_at "go"
      intro p5 Ha na ga ha
      have Ga : Gr (TT K) H3 Ha := G9.trans (ga (TT K))
      walk_at "go"
      refine asked_of (tab Ha Ga) (.int x sx) (sqT_of ha) fun Hb gb => ?_
      have Gb := Ga.trans gb
      walk_at "go"
      refine w_strT ax fun z ez1 lz1 => ?_
      walk_at "go"
      refine w_adds (by omega) ?_
      walk_at "go"
      intro p6 Hc nc gc hc
      have Gc : Gr (TT K) H3 Hc := Gb.trans (gc (TT K))
      walk_at "go"
      rw [ez1, ez]
      have lx := tx_len sx
      refine asked_of (tab Hc Gc) (num_txt (parse_int x) (by omega) sx sm1 (by decide)) (sqT_of hc) fun Hd gd => ?_
      have Gd := Gc.trans gd
      walk_at "go"
      refine w_I (mul_ok hx hs) ?_
      walk_at "go"
      refine w_strT xs fun w1 ew1 lw1 => ?_
      walk_at "go"
      refine w_adds (by omega) ?_
      walk_at "go"
      refine w_I (mul_ok hy hs) ?_
      walk_at "go"
      refine w_strT ys fun w2 ew2 lw2 => ?_
      walk_at "go"
      refine w_adds (by rw [len_app]; omega) ?_
      walk_at "go"
      refine w_I (mul_ok hx hs) ?_
      walk_at "go"
      refine w_I (mul_ok hy hs) ?_
      walk_at "go"
      intro p7 He ne ge he
      have Ge : Gr (TT K) H3 He := Gd.trans (ge (TT K))
      walk_at "go"
      have lf : (w1 ++ ("/" : Str) ++ w2).length ≤ 640 := by rw [len_app, len_app]; omega
      have pf : partsOf (w1 ++ ("/" : Str) ++ w2) = some (x * s, y * s) := by
        rw [ew1, ew2, ty _ y0, parse_frac _ (by omega : 0 < (y * s).natAbs), cy _ y0]
      refine asked_of (tab He Ge) (num_txt pf lf xs ys y0) (sqT_of he) fun Hf gf => ?_
      have Gf := Ge.trans gf
      walk_at "go"
      refine w_strT ax fun w3 ew3 lw3 => ?_
      walk_at "go"
      refine w_adds (by omega) ?_
      walk_at "go"
      refine w_adds (by rw [len_app]; omega) ?_
      walk_at "go"
      refine w_strT sy fun w4 ew4 lw4 => ?_
      walk_at "go"
      refine w_adds (by rw [len_app, len_app]; omega) ?_
      walk_at "go"
      intro p8 Hg ng gg hg
      have Gg : Gr (TT K) H3 Hg := Gf.trans (gg (TT K))
      walk_at "go"
      have lf2 : (("-" : Str) ++ w3 ++ ("/" : Str) ++ w4).length ≤ 640 := by rw [len_app, len_app, len_app]; omega
      have pf2 : partsOf (("-" : Str) ++ w3 ++ ("/" : Str) ++ w4) = some (0 - ((x.natAbs : Nat) : Int), y) := by
        rw [app_assoc, app_assoc, ← app_assoc w3, ew3, ew4, ty _ (by omega : 0 < y), tx_abs, parse_negF _ (by omega : 0 < y.natAbs), cy _ (by omega : 0 < y)]
        have : -((x.natAbs : Nat) : Int) = 0 - ((x.natAbs : Nat) : Int) := by omega
        rw [this]
      refine asked_of (tab Hg Gg) (num_txt pf2 lf2 nx sy (by omega)) (sqT_of hg) fun Hh gh => ?_
      exact q Hh ((g03.trans Gg).trans gh)
    walk_at "s"
    walk_at "s"
    refine w_ifE (w_test (w_op (w_var rfl (w_c (w_I0 ⟨_, rfl, ?_⟩)))))
    refine w_dec (fun e => ?_) (fun e => ?_)
    · refine w_c (w_gname (fin "-" ?_ (by omega)))
      rw [tx_neg e, tx_abs]
    · refine w_c (w_gname (fin "" ?_ (by omega)))
      obtain ⟨n, rfl⟩ := Int.eq_ofNat_of_zero_le (show 0 ≤ x by omega)
      exact emp_app _
  walk_at "go"
  refine ⟨J, rfl, hj, fun n H1 g1 n1 n2 => ?_⟩
  have hn := nat62 n n1 n2
  walk_at "go"
  intro m1 H2 nm2 g2 h2
  have G2 : Gr (TT K) H H2 := g1.trans (g2 (TT K))
  refine ⟨J, m1, _, rfl, G2.jar hj, sqA_of h2, Nat.zero_lt_succ _, Nat.le_of_ble_eq_true rfl, fun v hv => ?_⟩
  obtain ⟨sg, rfl, hsg⟩ : ∃ sg : Int, v = .int sg ∧ sg.natAbs = 1 := by
    simp only [List.mem_cons, List.not_mem_nil, or_false] at hv
    rcases hv with rfl | rfl <;> exact ⟨_, rfl, by decide⟩
  walk_at "go"
  refine w_I (mul_ok hn (by rw [hsg]; decide +kernel)) ?_
  have hx0 : (n * sg).natAbs < 10 ^ 62 := by rw [Int.natAbs_mul, hsg, Nat.mul_one]; exact hn
  generalize n * sg = x0 at *
  walk_at "go"
  refine ⟨J, 8, rfl, G2.jar hj, by decide, by decide, fun d d0 d1 => ?_⟩
  -- y and s
  have more : ∀ x : Int, x.natAbs < 10 ^ 62 → (tSeq (tAsg (tCall (spPick K) [] E0 (tCons (tVar 0) (tCons (tLst (tCons (tC (.int 1)) (tCons (tC (.int 2)) (tCons (tC (.int 3)) (tCons (tCall (spInteger K (TT K)) [] E0 (tCons (tVar 0) tNil)) tNil))))) tNil))) (gName 2))
      (tSeq (tAsg (tCall (spPick K) [] E0 (tCons (tVar 0) (tCons (tLst (tCons (tC (.int 1)) (tCons (tC (.int 1)) (tCons (tC (.int 2)) (tCons (tC (.int 6)) (tCons (tVar 2) tNil)))))) tNil))) (gName 3))
      (tSeq (tAsg (tIf (tTest (tOp qLt (tVar 1) (tC (.int 0)))) (tC (.str "-")) (tC (.str ""))) (gName 4))
      (tSeq (tIfS (tOr (tNot (L2.tB (tCall (spAsked K) [] E0 (tCons (tTup (tCons (tVar 1) (tCons (tVar 2) tNil))) (tCons (tTup (tCons (tVar 1) (tCons (tVar 2) tNil))) tNil))))) (tOr (tNot (L2.tB (tCall (spAsked K) [] E0 (tCons (tTup (tCons (tOp qMulW (tVar 1) (tVar 3)) (tCons (tOp qMulW (tVar 2) (tVar 3)) tNil))) (tCons (tTup (tCons (tOp qMulW (tVar 1) (tVar 3)) (tCons (tOp qMulW (tVar 2) (tVar 3)) tNil))) tNil))))) (tNot (L2.tB (tCall (spAsked K) [] E0 (tCons (tVar 1) (tCons (tTup (tCons (tVar 1) (tCons (tC (.int 1)) tNil))) tNil))))))) (tRet (tC (.bl false))) tNext)
      (tSeq (tIfS (tOr (tNot (L2.tB (tCall (spAsked K) [] E0 (tCons (tOp (uAdd K) (tVar 4) (tCB (uStr) (tCons (tCB (uAbs) (tCons (tVar 1) tNil)) tNil))) (tCons (tTup (tCons (tVar 1) (tCons (tC (.int 1)) tNil))) tNil))))) (tNot (L2.tB (tCall (spAsked K) [] E0 (tCons (tOp (uAdd K) (tOp (uAdd K) (tCB (uStr) (tCons (tOp qMulW (tVar 1) (tVar 3)) tNil)) (tC (.str "/"))) (tCB (uStr) (tCons (tOp qMulW (tVar 2) (tVar 3)) tNil))) (tCons (tTup (tCons (tOp qMulW (tVar 1) (tVar 3)) (tCons (tOp qMulW (tVar 2) (tVar 3)) tNil))) tNil)))))) (tRet (tC (.bl false))) tNext)
      (tRet (tCall (spAsked K) [] E0 (tCons (tOp (uAdd K) (tOp (uAdd K) (tOp (uAdd K) (tC (.str "-")) (tCB (uStr) (tCons (tCB (uAbs) (tCons (tVar 1) tNil)) tNil))) (tC (.str "/"))) (tCB (uStr) (tCons (tVar 2) tNil))) (tCons (tTup (tCons (tOp qSub (tC (.int 0)) (tCB (uAbs) (tCons (tVar 1) tNil))) (tCons (tVar 2) tNil))) tNil))))))))) (E_ Q) [some (.ref J), some (.int x), none, none, none] H2 := by
    intro x hx
    walk_at "go"
    refine ⟨J, rfl, G2.jar hj, fun k H3 g3 k1 k2 => ?_⟩
    have hk := nat62 k k1 k2
    walk_at "go"
    intro m2 H4 nm4 g4 h4
    have G4 : Gr (TT K) H H4 := (G2.trans g3).trans (g4 (TT K))
    refine ⟨J, m2, _, rfl, G4.jar hj, sqA_of h4, Nat.zero_lt_succ _, Nat.le_of_ble_eq_true rfl, fun v hv => ?_⟩
    obtain ⟨y, rfl, y1, hy⟩ : ∃ y : Int, v = .int y ∧ 1 ≤ y ∧ y.natAbs < 10 ^ 62 := by
      simp only [List.mem_cons, List.not_mem_nil, or_false] at hv
      rcases hv with rfl | rfl | rfl | rfl
      · exact ⟨_, rfl, by decide, by decide +kernel⟩
      · exact ⟨_, rfl, by decide, by decide +kernel⟩
      · exact ⟨_, rfl, by decide, by decide +kernel⟩
      · exact ⟨_, rfl, k1, hk⟩
    walk_at "go"
    intro m3 H5 nm5 g5 h5
    have G5 : Gr (TT K) H H5 := G4.trans (g5 (TT K))
    refine ⟨J, m3, _, rfl, G5.jar hj, sqA_of h5, Nat.zero_lt_succ _, Nat.le_of_ble_eq_true rfl, fun v hv => ?_⟩
    obtain ⟨s, rfl, s1, hs⟩ : ∃ s : Int, v = .int s ∧ 1 ≤ s ∧ s.natAbs < 10 ^ 62 := by
      simp only [List.mem_cons, List.not_mem_nil, or_false] at hv
      rcases hv with rfl | rfl | rfl | rfl | rfl
      · exact ⟨_, rfl, by decide, by decide +kernel⟩
      · exact ⟨_, rfl, by decide, by decide +kernel⟩
      · exact ⟨_, rfl, by decide, by decide +kernel⟩
      · exact ⟨_, rfl, by decide, by decide +kernel⟩
      · exact ⟨_, rfl, y1, hy⟩
    refine w_gname ?_
    exact rest x y s H5 G5 hx y1 hy s1 hs
  walk_at "go"
  refine w_dec (fun e => ?_) (fun e => ?_)
  · refine w_c (w_gname (more 0 (by decide +kernel)))
  · refine w_var rfl (w_gname (more x0 hx0))
end K00
end
section
set_option Elab.async false
set_option linter.all false
set_option maxRecDepth 100000
set_option maxHeartbeats 4000000
namespace K00
open PySem PySem.Spec PyProof.Rows L2 LamX U Evl TL L2H HotX LHot LX LV NdefX LW
/-! ### steps, by program -/
local macro_rules | `(tactic| walk_at "kp") => `(tactic| first
  | assumption
  | exact sqA_of (by assumption)
  | exact sqB_of (by assumption)
  | exact sqL_of (by assumption)
  | exact sqT_of (by assumption)
  | exact Or.inl (by assumption)
  | exact Or.inr (by assumption)
  | exact Gr.refl _ _
  | exact GrA.gr (by assumption)
  | (apply Gr.trans ?_ (by first | assumption | exact GrA.gr (by assumption)); walk_at "kp")
  | (apply Gr.xd; (first | assumption | exact GrA.gr (T := []) (by assumption)); walk_at "kp")
  | (apply Gr.sq; (first | assumption | exact GrA.gr (T := []) (by assumption)); walk_at "kp")
  | (apply Gr.sqL; (first | assumption | exact GrA.gr (T := []) (by assumption)); walk_at "kp")
  | (apply Gr.sqT; (first | assumption | exact GrA.gr (T := []) (by assumption)); walk_at "kp")
  | (apply Gr.lst; (first | assumption | exact GrA.gr (T := []) (by assumption)); walk_at "kp")
  | (apply Gr.tup; (first | assumption | exact GrA.gr (T := []) (by assumption)); walk_at "kp"))
local macro_rules | `(tactic| walk_at "s") => `(tactic| first
  | with_reducible first
    | refine w_seq ?_ | refine w_asg ?_ | refine w_gname ?_ | refine w_if ?_ | refine w_ret ?_ | refine w_next ?_ | refine w_drop ?_ | refine w_retN ?_ | refine w_brk ?_ | refine w_cont ?_ | refine w_gsub ?_
    | refine w_op ?_ | refine w_c ?_ | refine w_nil ?_ | refine w_cons ?_ | refine w_cb ?_ | refine w_un ?_
    | refine w_I0 ?_ | refine w_U ?_ | refine w_add ?_ | refine w_test ?_ | refine w_tB ?_ | refine w_tr ?_ | refine w_exn ?_ | refine w_trn ?_ | refine w_and ?_ | refine w_or ?_ | refine w_not ?_ | refine w_andV ?_ | refine w_orV ?_ | refine w_notV ?_ | refine w_ifE ?_
    | refine w_eqI ?_ | refine w_neI ?_ | refine w_eqS ?_ | refine w_neS ?_ | refine w_eqB ?_ | refine w_neB ?_ | refine w_isNo ?_ | refine w_notN ?_
    | refine w_call0 ?_ | refine w_tupK ?_ | refine w_lstK ?_ | refine w_bm ?_ | refine w_nop ?_ | refine w_part ?_ | refine w_exi ?_ | refine w_sl ?_
    | refine w_lcS ?_ | refine w_lcR1 ?_ | refine w_lcR2 ?_ | refine w_lcE ?_ | refine w_frS ?_ | refine w_frR1 ?_ | refine w_frR2 ?_ | refine w_frE ?_ | refine w_frT ?_
    | refine w_tYes ?_ | refine w_lcH ?_ | refine w_callE ?_ | refine w_iteD ?_ | refine w_iteND ?_ | refine w_raise ?_ | refine raK1 ?_ | refine raK2 ?_ | refine w_iteNT ?_ | refine w_iteNF ?_ | refine w_ckw ?_ | refine w_callN ?_ | refine w_m1 ?_ | refine w_yes1 ?_ | refine w_iteT ?_ | refine w_iteF ?_ | refine w_abs ?_ | refine w_max2 ?_ | refine w_max3 ?_ | refine w_min2 ?_ | refine w_intI ?_
  | (with_reducible apply w_var; with_unfolding_all rfl)
  | (with_reducible apply w_lenI; walk_at "kp")
  | (with_reducible apply w_len; walk_at "kp")
  | (with_reducible apply w_sum; walk_at "kp")
  | (with_reducible refine lstK ?_ ?_; exact Nat.le_of_ble_eq_true rfl)
  | (with_reducible refine tupK ?_ ?_; exact Nat.le_of_ble_eq_true rfl)
  | (with_reducible apply w_list; walk_at "kp")
  | (with_reducible apply w_tuple; walk_at "kp")
  | (with_reducible apply w_slI; walk_at "kp")
  | (with_reducible apply w_inI; walk_at "kp")
  | (with_reducible apply w_notInI; walk_at "kp"))
local macro_rules | `(tactic| walk_at "go") => `(tactic| repeat' (walk_at "s"))
variable {K : PySem.W.Frag} {T : List (Addr × Str)}
def tArgs : List TE → TA
  | [] => tNil
  | t :: r => tCons t (tArgs r)
/-- what gives a value that is no number -/
def BadTe (K : PySem.W.Frag) (T : List (Addr × Str)) (σ : L2.St) (t : TE) : Prop := ∀ (H : Hp) (Q : VK), (∀ v H', Gr T H H' → NumArg K H' v none → Q v H') → t σ H Q
theorem w_badA {σ : L2.St} : ∀ (ts : List TE) (H : Hp) (QA : List V → Hp → Prop), (∀ t ∈ ts, BadTe K T σ t) → (∀ xs H', Gr T H H' → xs.length = ts.length → (∀ x ∈ xs, NumArg K H' x none) → QA xs H') → tArgs ts σ H QA
  | [], H, QA, _, q => q [] H (Gr.refl _ _) rfl fun _ h => by cases h
  | t :: r, H, QA, ht, q => by
    show tCons t (tArgs r) σ H QA
    refine w_cons (ht t (List.mem_cons_self ..) H _ fun v H1 g1 h1 => ?_)
    refine w_badA r H1 _ (fun x hx => ht x (List.mem_cons_of_mem _ hx)) fun xs H2 g2 l2 h2 => q _ H2 (g1.trans g2) (by rw [List.length_cons, l2]; rfl) fun x hx => ?_
    rcases List.mem_cons.mp hx with rfl | hx
    · exact Gr.num g2 h1
    · exact h2 x hx
theorem bt_c {σ : L2.St} {v : V} (h : ∀ H, NumArg K H v none) : BadTe K T σ (tC v) := fun H Q q => q v H (Gr.refl _ _) (h H)
theorem bt_s {σ : L2.St} {z : Str} (l : z.length ≤ 640) (h : partsOf z = none) : BadTe K T σ (tC (.str z)) := bt_c fun H => by
  have := NumArg.txt (K := K) (H := H) l (fun a b e => by rw [h] at e; cases e)
  rw [h] at this
  exact this
theorem bt_tup {σ : L2.St} {ts : TA} {xs : List V} (he : ∀ (H : Hp) (QA : List V → Hp → Prop), QA xs H → ts σ H QA) (hl : xs.length ≤ 100) (h : ∀ H p, SqT K H p xs → BadV K H (.ref p)) : BadTe K T σ (tTup ts) := fun H Q q => by
  refine w_tupK (he H _ (tupK (by omega) fun p H1 np g1 h1 => ?_))
  exact q _ H1 (g1 T) (.bad (h H1 p (sqT_of h1)))
theorem bt_lst {σ : L2.St} {ts : TA} {xs : List V} (he : ∀ (H : Hp) (QA : List V → Hp → Prop), QA xs H → ts σ H QA) (hl : xs.length ≤ 100) : BadTe K T σ (tLst ts) := fun H Q q => by
  refine w_lstK (he H _ (lstK (by omega) fun p H1 np g1 h1 => ?_))
  exact q _ H1 (g1 T) (.bad (.lst (sqL_of h1)))
def bad1 : List TE := [tC .non, tC (.bl true), tC (.bl false), tTup tNil, tTup (tCons (tVar 1) tNil), tTup (tCons (tVar 1) (tCons (tC (.int 0)) tNil)), tTup (tCons (tVar 1) (tCons (tOp qSub (tC (.int 0)) (tC (.int 2))) tNil)), tTup (tCons (tVar 1) (tCons (tC (.int 1)) (tCons (tC (.int 1)) tNil))), tTup (tCons (tC (.bl true)) (tCons (tC (.int 2)) tNil)), tTup (tCons (tVar 1) (tCons (tC (.bl true)) tNil)), tTup (tCons (tC .non) (tCons (tC (.int 1)) tNil)), tTup (tCons (tVar 1) (tCons (tC .non) tNil)), tTup (tCons (tC (.str "1")) (tCons (tC (.int 2)) tNil)), tTup (tCons (tVar 1) (tCons (tC (.str "2")) tNil)), tTup (tCons (tTup (tCons (tVar 1) (tCons (tC (.int 1)) tNil))) (tCons (tC (.int 2)) tNil)), tLst tNil, tLst (tCons (tVar 1) tNil), tLst (tCons (tVar 1) (tCons (tC (.int 2)) tNil)), tDNewK, tDisp [((tC (.int 0)), (tVar 1))]]
def words2 : List Str := ["", " ", "1/0", "01", " 1", "1 ", "--1", "+1", "1/-2", "1/02", "-", "/", "1/", "/2", "1/2/3", "one", "1.0", "- 1", "1 /2", "0x1", "-01", "1/00"]
theorem words2_ok : ∀ z ∈ words2, z.length ≤ 640 ∧ partsOf z = none := by
  have h : (words2.all fun z => decide (z.length ≤ 640) && decide (partsOf z = none)) = true := by decide +kernel
  intro z hz
  obtain ⟨h1, h2⟩ := Bool.and_eq_true_iff.mp (List.all_eq_true.mp h z hz)
  exact ⟨of_decide_eq_true h1, of_decide_eq_true h2⟩
def bad2 : List TE := (words2.map fun z => tC (.str z)) ++ [tTup (tCons (tOp qPow (tC (.int 10)) (tC (.int 61))) (tCons (tC (.int 0)) tNil)), tTup (tCons (tOp qPow (tC (.int 10)) (tC (.int 61))) (tCons (tC (.bl true)) tNil))]
theorem kx_int {H : Hp} (i : Int) : Kx K H (.int i) := .kd (.int i)
theorem bad1_ok {x : Int} {J : Addr} {r : L2.St} : ∀ t ∈ bad1, BadTe K T (some (.ref J) :: some (.int x) :: r) t := by
  have v1 : ∀ {H : Hp} {Q : VK}, Q (.int x) H → tVar 1 (some (.ref J) :: some (.int x) :: r) H Q := fun q => w_var rfl q
  intro t ht
  unfold bad1 at ht
  simp only [List.mem_cons, List.not_mem_nil, or_false] at ht
  rcases ht with rfl | rfl | rfl | rfl | rfl | rfl | rfl | rfl | rfl | rfl | rfl | rfl | rfl | rfl | rfl | rfl | rfl | rfl | rfl | rfl
  · exact bt_c fun H => .bad .non
  · exact bt_c fun H => .bad (.bl _)
  · exact bt_c fun H => .bad (.bl _)
  · exact bt_tup (xs := []) (fun H QA q => w_nil q) (by decide) fun H p h => .len h (by decide) (by decide)
  · exact bt_tup (xs := [.int x]) (fun H QA q => w_cons (v1 (w_nil q))) (Nat.le_of_ble_eq_true rfl) fun H p h => .len h (by show 1 ≠ 2; decide) (Nat.le_of_ble_eq_true rfl)
  · exact bt_tup (xs := [.int x, .int 0]) (fun H QA q => w_cons (v1 (w_cons (w_c (w_nil q))))) (Nat.le_of_ble_eq_true rfl) fun H p h => .two h (kx_int _) (kx_int _) fun _ i e => by cases e; decide
  · exact bt_tup (xs := [.int x, .int (0 - 2)]) (fun H QA q => w_cons (v1 (w_cons (w_op (w_c (w_c (w_I0 (w_nil q)))))))) (Nat.le_of_ble_eq_true rfl) fun H p h => .two h (kx_int _) (kx_int _) fun _ i e => by cases e; decide
  · exact bt_tup (xs := [.int x, .int 1, .int 1]) (fun H QA q => w_cons (v1 (w_cons (w_c (w_cons (w_c (w_nil q))))))) (Nat.le_of_ble_eq_true rfl) fun H p h => .len h (by show 3 ≠ 2; decide) (Nat.le_of_ble_eq_true rfl)
  · exact bt_tup (xs := [.bl true, .int 2]) (fun H QA q => w_cons (w_c (w_cons (w_c (w_nil q))))) (Nat.le_of_ble_eq_true rfl) fun H p h => .two h (.kd (.bl _)) (kx_int _) fun e => by cases e
  · exact bt_tup (xs := [.int x, .bl true]) (fun H QA q => w_cons (v1 (w_cons (w_c (w_nil q))))) (Nat.le_of_ble_eq_true rfl) fun H p h => .two h (kx_int _) (.kd (.bl _)) fun _ i e => by cases e
  · exact bt_tup (xs := [.non, .int 1]) (fun H QA q => w_cons (w_c (w_cons (w_c (w_nil q))))) (Nat.le_of_ble_eq_true rfl) fun H p h => .two h (.kd .non) (kx_int _) fun e => by cases e
  · exact bt_tup (xs := [.int x, .non]) (fun H QA q => w_cons (v1 (w_cons (w_c (w_nil q))))) (Nat.le_of_ble_eq_true rfl) fun H p h => .two h (kx_int _) (.kd .non) fun _ i e => by cases e
  · exact bt_tup (xs := [.str "1", .int 2]) (fun H QA q => w_cons (w_c (w_cons (w_c (w_nil q))))) (Nat.le_of_ble_eq_true rfl) fun H p h => .two h (.kd (.str _)) (kx_int _) fun e => by cases e
  · exact bt_tup (xs := [.int x, .str "2"]) (fun H QA q => w_cons (v1 (w_cons (w_c (w_nil q))))) (Nat.le_of_ble_eq_true rfl) fun H p h => .two h (kx_int _) (.kd (.str _)) fun _ i e => by cases e
  · intro H Q q
    refine w_tupK (w_cons (w_tupK (w_cons (v1 (w_cons (w_c (w_nil (tupK (Nat.le_of_ble_eq_true rfl) fun p1 H1 n1 g1 h1 => ?_))))))))
    refine w_cons (w_c (w_nil (tupK (Nat.le_of_ble_eq_true rfl) fun p2 H2 n2 g2 h2 => ?_)))
    exact q _ H2 ((g1 T).trans (g2 T)) (.bad (.two (sqT_of h2) (.kd (.tup (sqT_of ((g2 T).tup h1)))) (kx_int _) fun e => by cases e))
  · exact bt_lst (xs := []) (fun H QA q => w_nil q) (by decide)
  · exact bt_lst (xs := [.int x]) (fun H QA q => w_cons (v1 (w_nil q))) (Nat.le_of_ble_eq_true rfl)
  · exact bt_lst (xs := [.int x, .int 2]) (fun H QA q => w_cons (v1 (w_cons (w_c (w_nil q))))) (Nat.le_of_ble_eq_true rfl)
  · intro H Q q
    unfold tDNewK
    intro p hp
    exact q _ _ (Gr.new hp) (.bad (.dct upd_same))
  · intro H Q q
    unfold tDisp
    intro p hp
    refine w_c (w_var rfl ⟨upd_same, [(.inl 0, .int x)], rfl, Nat.le_of_ble_eq_true rfl, ?_⟩)
    refine q _ _ ?_ (.bad (.dct upd_same))
    refine Gr.of_same fun b o e => ?_
    have hb : b ≠ p := fun z => by rw [z, hp] at e; cases e
    rw [upd_ne hb, upd_ne hb]
    exact e
theorem bad2_ok {σ : L2.St} : ∀ t ∈ bad2, BadTe K T σ t := by
  intro t ht
  unfold bad2 at ht
  rcases List.mem_append.mp ht with h | h
  · obtain ⟨z, hz, rfl⟩ := List.mem_map.mp h
    obtain ⟨h1, h2⟩ := words2_ok z hz
    exact bt_s h1 h2
  · have cp : CPow 10 61 := ⟨by decide, by decide, by decide⟩
    simp only [List.mem_cons, List.not_mem_nil, or_false] at h
    rcases h with rfl | rfl
    · exact bt_tup (xs := [.int (10 ^ (61 : Int).toNat), .int 0]) (fun H QA q => w_cons (w_op (w_c (w_c (w_I cp (w_cons (w_c (w_nil q)))))))) (Nat.le_of_ble_eq_true rfl) fun H p h => .two h (kx_int _) (kx_int _) fun _ i e => by cases e; decide
    · exact bt_tup (xs := [.int (10 ^ (61 : Int).toNat), .bl true]) (fun H QA q => w_cons (w_op (w_c (w_c (w_I cp (w_cons (w_c (w_nil q)))))))) (Nat.le_of_ble_eq_true rfl) fun H p h => .two h (kx_int _) (.kd (.bl _)) fun _ i e => by cases e
theorem rd_law_strange : ∀ vs H Q (E : XK), spJar1 K vs H Q E → t__law_strange K (spReach K) (spPick K) (spAsked K) (E_ Q) (start ["jar", "x", "menu", "step", "given"] vs) H := by
  intro vs H Q E h
  obtain ⟨J, rfl, htab, hj, q⟩ := h
  unfold t__law_strange
  walk_at "s"
  walk_at "s"
  walk_at "s"
  refine w_cons (w_var rfl (w_cons (w_c (w_nil ?_))))
  refine ⟨J, 20, rfl, hj, by decide, by decide, fun x x0 x1 => ?_⟩
  refine w_gname ?_
  with_reducible refine w_seq ?_
  with_reducible refine w_asg ?_
  with_reducible refine w_lstK ?_
  show tArgs bad1 _ _ _
  refine w_badA (K := K) (T := TT K) bad1 H _ bad1_ok fun xs H1 g1 l1 b1 => ?_
  refine lstK (by rw [l1]; exact Nat.le_of_ble_eq_true rfl) fun m1 H2 n2 g2 h2 => ?_
  refine w_gname ?_
  with_reducible refine w_seq ?_
  with_reducible refine w_asg ?_
  with_reducible refine w_op ?_
  refine w_var rfl ?_
  with_reducible refine w_lstK ?_
  show tArgs bad2 _ _ _
  refine w_badA (K := K) (T := TT K) bad2 H2 _ bad2_ok fun ys H3 g3 l3 b3 => ?_
  refine lstK (by rw [l3]; exact Nat.le_of_ble_eq_true rfl) fun m2 H4 n4 g4 h4 => ?_
  have l1' : xs.length ≤ 20 := by rw [l1]; exact Nat.le_of_ble_eq_true rfl
  have l3' : ys.length ≤ 24 := by rw [l3]; exact Nat.le_of_ble_eq_true rfl
  have l3p : 0 < ys.length := by rw [l3]; exact Nat.zero_lt_succ _
  refine w_cat ((g4 (TT K)).lst (g3.lst h2)) h4 (by omega) fun m3 H5 n5 g5 h5 => ?_
  have G25 : Gr (TT K) H2 H5 := (g3.trans (g4 (TT K))).trans (g5 (TT K))
  have G : Gr (TT K) H H5 := (g1.trans (g2 (TT K))).trans G25
  have hbad : ∀ v ∈ xs ++ ys, NumArg K H5 v none := fun v hv => by
    rcases List.mem_append.mp hv with h | h
    · exact Gr.num ((g2 (TT K)).trans G25) (b1 v h)
    · exact Gr.num ((g4 (TT K)).trans (g5 (TT K))) (b3 v h)
  refine w_gname ?_
  walk_at "go"
  refine fr_R1 (by decide) (by decide) (fun i σ H' => Gr (TT K) H5 H' ∧ ∃ a b, σ = [some (.ref J), some (.int x), some (.ref m3), a, b]) ⟨Gr.refl _ _, _, _, rfl⟩ (fun i σ' H6 hi p => ?_) (fun σ' H6 p => ?_)
  · obtain ⟨g6, a, b, rfl⟩ := p
    walk_at "go"
    refine ⟨J, m3, xs ++ ys, rfl, (G.trans g6).jar hj, sqA_of (g6.lst h5), by rw [List.length_append]; omega, by rw [List.length_append]; omega, fun v hv => ?_⟩
    walk_at "go"
    refine ⟨v, .non, none, rfl, (G.trans g6).tabs htab, Gr.num g6 (hbad v hv), .inl ⟨rfl, rfl⟩, fun H7 g7 => ?_⟩
    walk_at "go"
    exact ⟨g6.trans g7, _, _, rfl⟩
  · obtain ⟨g6, a, b, rfl⟩ := p
    walk_at "go"
    exact q H6 (G.trans g6)
end K00
end
section
set_option Elab.async false
set_option linter.all false
set_option maxRecDepth 100000
set_option maxHeartbeats 4000000
namespace K00
open PySem PySem.Spec PyProof.Rows L2 LamX U Evl TL L2H HotX LHot LX LV NdefX LW
/-! ### steps, by program -/
local macro_rules | `(tactic| walk_at "kp") => `(tactic| first
  | assumption
  | exact sqA_of (by assumption)
  | exact sqB_of (by assumption)
  | exact sqL_of (by assumption)
  | exact sqT_of (by assumption)
  | exact Or.inl (by assumption)
  | exact Or.inr (by assumption)
  | exact Gr.refl _ _
  | exact GrA.gr (by assumption)
  | (apply Gr.trans ?_ (by first | assumption | exact GrA.gr (by assumption)); walk_at "kp")
  | (apply Gr.xd; (first | assumption | exact GrA.gr (T := []) (by assumption)); walk_at "kp")
  | (apply Gr.sq; (first | assumption | exact GrA.gr (T := []) (by assumption)); walk_at "kp")
  | (apply Gr.sqL; (first | assumption | exact GrA.gr (T := []) (by assumption)); walk_at "kp")
  | (apply Gr.sqT; (first | assumption | exact GrA.gr (T := []) (by assumption)); walk_at "kp")
  | (apply Gr.lst; (first | assumption | exact GrA.gr (T := []) (by assumption)); walk_at "kp")
  | (apply Gr.tup; (first | assumption | exact GrA.gr (T := []) (by assumption)); walk_at "kp"))
local macro_rules | `(tactic| walk_at "s") => `(tactic| first
  | with_reducible first
    | refine w_seq ?_ | refine w_asg ?_ | refine w_gname ?_ | refine w_if ?_ | refine w_ret ?_ | refine w_next ?_ | refine w_drop ?_ | refine w_retN ?_ | refine w_brk ?_ | refine w_cont ?_ | refine w_gsub ?_
    | refine w_op ?_ | refine w_c ?_ | refine w_nil ?_ | refine w_cons ?_ | refine w_cb ?_ | refine w_un ?_
    | refine w_I0 ?_ | refine w_U ?_ | refine w_add ?_ | refine w_test ?_ | refine w_tB ?_ | refine w_tr ?_ | refine w_exn ?_ | refine w_trn ?_ | refine w_and ?_ | refine w_or ?_ | refine w_not ?_ | refine w_andV ?_ | refine w_orV ?_ | refine w_notV ?_ | refine w_ifE ?_
    | refine w_eqI ?_ | refine w_neI ?_ | refine w_eqS ?_ | refine w_neS ?_ | refine w_eqB ?_ | refine w_neB ?_ | refine w_isNo ?_ | refine w_notN ?_
    | refine w_call0 ?_ | refine w_tupK ?_ | refine w_lstK ?_ | refine w_bm ?_ | refine w_nop ?_ | refine w_part ?_ | refine w_exi ?_ | refine w_sl ?_
    | refine w_lcS ?_ | refine w_lcR1 ?_ | refine w_lcR2 ?_ | refine w_lcE ?_ | refine w_frS ?_ | refine w_frR1 ?_ | refine w_frR2 ?_ | refine w_frE ?_ | refine w_frT ?_
    | refine w_tYes ?_ | refine w_lcH ?_ | refine w_callE ?_ | refine w_iteD ?_ | refine w_iteND ?_ | refine w_raise ?_ | refine raK1 ?_ | refine raK2 ?_ | refine w_iteNT ?_ | refine w_iteNF ?_ | refine w_ckw ?_ | refine w_callN ?_ | refine w_m1 ?_ | refine w_yes1 ?_ | refine w_iteT ?_ | refine w_iteF ?_ | refine w_abs ?_ | refine w_max2 ?_ | refine w_max3 ?_ | refine w_min2 ?_ | refine w_intI ?_
  | (with_reducible apply w_var; with_unfolding_all rfl)
  | (with_reducible apply w_lenI; walk_at "kp")
  | (with_reducible apply w_len; walk_at "kp")
  | (with_reducible apply w_sum; walk_at "kp")
  | (with_reducible refine lstK ?_ ?_; exact Nat.le_of_ble_eq_true rfl)
  | (with_reducible refine tupK ?_ ?_; exact Nat.le_of_ble_eq_true rfl)
  | (with_reducible apply w_list; walk_at "kp")
  | (with_reducible apply w_tuple; walk_at "kp")
  | (with_reducible apply w_slI; walk_at "kp")
  | (with_reducible apply w_inI; walk_at "kp")
  | (with_reducible apply w_notInI; walk_at "kp"))
local macro_rules | `(tactic| walk_at "go") => `(tactic| repeat' (walk_at "s"))
variable {K : PySem.W.Frag} {T : List (Addr × Str)}
/-- the classes with one field -/
def cf : List (Str × Str) := [("BadNumber", "at"), ("BadSum", "at"), ("BadQuotient", "at"), ("BadLandscape", "at"), ("BadWell", "at"), ("BadWall", "at"), ("BadShape", "at"), ("BadRoll", "at"), ("BadOperator", "at"), ("BadSymbol", "at"), ("BadStep", "at"), ("BadPaper", "at")]
def cf2 : List (Str × Str) := [("BadName", "name"), ("BadScript", "line"), ("Barred", "kind"), ("Unlike", "what"), ("HasResidue", "wall"), ("NotKept", "wall"), ("NoSuch", "name"), ("Ended", "what")]
/-- what the written part says of the class q.1 with the field q.2 -/
structure ExV (K : PySem.W.Frag) (q : Str × Str) : Prop where
  own : OwnG K (He.ga K q.1)
  kind : KindC K (He.ga K q.1) q.1
  no : PySem.W.findIn K (.ref (He.ga K q.1)) q.2 = some none
theorem cf_fields : ∀ q ∈ cf ++ cf2, fieldsOf q.1 = [q.2] := by
  have h : ((cf ++ cf2).all fun q => decide (fieldsOf q.1 = [q.2])) = true := by decide +kernel
  exact fun q hq => of_decide_eq_true (List.all_eq_true.mp h q hq)
structure TmV (K : PySem.W.Frag) : Prop where
  own : OwnG K (He.ga K "TooMany")
  kind : KindC K (He.ga K "TooMany") "TooMany"
  noW : PySem.W.findIn K (.ref (He.ga K "TooMany")) "what" = some none
  noC : PySem.W.findIn K (.ref (He.ga K "TooMany")) "count" = some none
def newTe (K : PySem.W.Frag) (j : Nat) (q : Str × Str) : TE := tNew (He.ga K q.1) [q.2] (fun vs => vs) (tCons (tVar j) tNil)
/-- what is made: each thing is of its class, with u -/
def Made (K : PySem.W.Frag) (H : Hp) (u : V) (v : V) (q : Str × Str) : Prop := IsX K H v (He.ga K q.1) [(q.2, u)]
theorem w_new {C : Addr} {fs : List Str} {gV : List V → List V} {ta : TA} {σ : L2.St} {H : Hp} {Q : VK} (h : ta σ H fun zs H1 => zs.length = fs.length ∧ (gV zs).length = fs.length ∧ ∀ a d, H1 a = none → H1 d = none → d ≠ a → Q (.ref a) (upd (upd H1 d (exd d (fs.zip (gV zs)).reverse)) a (exo a C (some d)))) : tNew C fs gV ta σ H Q := h
theorem w_news {σ : L2.St} {j : Nat} {u : V} (h0 : σ[j]? = some (some u)) : ∀ (qs : List (Str × Str)) (H : Hp) (QA : List V → Hp → Prop), (∀ q ∈ qs, ExV K q) → (∀ xs H', Gr T H H' → Paired (Made K H' u) xs qs → QA xs H') → tArgs (qs.map (newTe K j)) σ H QA
  | [], H, QA, _, q => q [] H (Gr.refl _ _) .nil
  | c :: r, H, QA, hx, q => by
    show tCons (newTe K j c) (tArgs (r.map (newTe K j))) σ H QA
    have X := hx c (List.mem_cons_self ..)
    refine w_cons ?_
    unfold newTe
    refine w_new (w_cons (w_var h0 (w_nil ⟨rfl, rfl, fun a d na nd da => ?_⟩)))
    have g1 : Gr T H (upd H d (exd d ([c.2].zip [u]).reverse)) := Gr.new nd
    have na1 : (upd H d (exd d ([c.2].zip [u]).reverse)) a = none := by rw [upd_ne (fun z => da z.symm)]; exact na
    have g2 := Gr.new (T := T) (o := exo a (He.ga K c.1) (some d)) na1
    refine w_news h0 r _ _ (fun x hx' => hx x (List.mem_cons_of_mem _ hx')) fun xs H2 g3 hs => q _ H2 ((g1.trans g2).trans g3) (.cons ?_ hs)
    exact Gr.isx g3 ⟨a, d, rfl, X.own, upd_same, by rw [upd_ne da, upd_same]; rfl⟩
theorem paired_get {α β : Type} {R : α → β → Prop} : ∀ {xs : List α} {ys : List β}, Paired R xs ys → ∀ (i : Nat) y, ys[i]? = some y → ∃ x, xs[i]? = some x ∧ R x y
  | _, _, .nil, i, y, e => by simp at e
  | _, _, .cons r t, 0, y, e => by
    simp at e
    subst e
    exact ⟨_, rfl, r⟩
  | _, _, .cons r t, i + 1, y, e => by
    obtain ⟨x, h1, h2⟩ := paired_get t i y (by simpa using e)
    exact ⟨x, by simpa using h1, h2⟩
theorem flat_up {n : Nat} {d : PyData} (h : Flat n d) : Flat (n + 1) d := by
  induction h with
  | non => exact .non
  | bl b => exact .bl b
  | int i => exact .int i
  | str s => exact .str s
  | lst h ih => exact .lst ih
  | tup h ih => exact .tup ih
/-- the loop over what was made -/
theorem w_check {qs : List (Str × Str)} {H : Hp} {m t : Addr} {xs : List V} {u u0 v0 : V} {z0 : Option V} {du : PyData} {j : Nat} {D : Ends} (hq : ∀ q ∈ qs, ExV K q ∧ fieldsOf q.1 = [q.2]) (hl : qs.length ≤ 100)
    (hm : SqL K H m xs) (ht : SqL K H t (qs.map fun q => V.str q.1)) (hx : Paired (Made K H u) xs qs) (hu : Dp K H u du) (hf : Flat 2 du) (hs : Short du)
    (sj : ∀ z, [some u0, some v0, some (.ref m), some (.ref t), z][j]? = some (some u)) (nx : ∀ H' z, Gr T H H' → D.nx [some u0, some v0, some (.ref m), some (.ref t), z] H') :
    tFor (iRng1 (tCons (tCB (uLen K) (tCons (tVar 3) tNil)) tNil)) (gName 4) (tIfS (tNot (L2.tB (tCall (spLikeN K T 4) [] E0 (tCons (tCall (spPartsV K T) [] E0 (tCons (tOp (uIx K) (tVar 2) (tVar 4)) tNil)) (tCons (tLst (tCons (tOp (uIx K) (tVar 3) (tVar 4)) (tCons (tVar j) tNil))) tNil))))) (tRet (tC (.bl false))) tNext) D [some u0, some v0, some (.ref m), some (.ref t), z0] H := by
  have lx : xs.length = qs.length := Paired.length hx
  have lt : (qs.map fun q => V.str q.1).length = qs.length := List.length_map ..
  walk_at "go"
  refine w_len (.inl ht) ?_
  walk_at "go"
  refine fr_R1 (by omega) (by omega) (fun i σ' H' => Gr T H H' ∧ ∃ z, σ' = [some u0, some v0, some (.ref m), some (.ref t), z]) ⟨Gr.refl _ _, _, rfl⟩ (fun i σ' H2 hi p => ?_) (fun σ' H2 p => ?_)
  · obtain ⟨g2, z, rfl⟩ := p
    rw [lt] at hi
    have i1 : i < qs.length := by omega
    have e1 := List.getElem?_eq_getElem i1
    obtain ⟨x, e2, hx2⟩ := paired_get hx i _ e1
    generalize qs[i] = c at *
    have hc := List.mem_of_getElem? e1
    obtain ⟨X, hfl⟩ := hq c hc
    have e3 : (qs.map fun q => V.str q.1)[i]? = some (.str c.1) := by rw [List.getElem?_map, e1]; rfl
    walk_at "go"
    refine w_ix (.inl (g2.sqL hm)) (by omega) (by rw [Int.toNat_natCast]; exact e2) ?_
    walk_at "go"
    refine ⟨x, _, _, c.1, [u], rfl, Gr.isx g2 hx2, X.kind, by rw [hfl]; simp, by rw [hfl]; exact .cons X.no (by simp [List.lookup]) .nil, Nat.le_of_ble_eq_true rfl, fun l H3 g3 h3 => ?_⟩
    have g23 := g2.trans g3
    walk_at "go"
    refine w_ix (.inl (g23.sqL ht)) (by omega) (by rw [Int.toNat_natCast]; exact e3) ?_
    refine w_cons (w_var (sj _) (w_nil (lstK (Nat.le_of_ble_eq_true rfl) fun l2 H4 n4 g4 h4 => ?_)))
    have g24 : Gr T H H4 := g23.trans (g4 T)
    walk_at "go"
    refine ⟨.ref l, .ref l2, .list [.str c.1, du], rfl, .lst (n := 2) fun d hd => ?_, .lst (by show 2 ≤ 10000; decide) fun d hd => ?_, .lst (sqL_of ((g4 T).lst h3)) (.cons (.str _) (.cons (g24.dp hu) .nil)), .lst (sqL_of h4) (.cons (.str _) (.cons (g24.dp hu) .nil)), fun H5 g5 => ?_⟩
    · simp only [List.mem_cons, List.not_mem_nil, or_false] at hd
      rcases hd with rfl | rfl
      · exact .str _
      · exact hf
    · simp only [List.mem_cons, List.not_mem_nil, or_false] at hd
      rcases hd with rfl | rfl
      · exact .str _
      · exact hs
    · walk_at "go"
      exact ⟨g24.trans g5, _, rfl⟩
  · obtain ⟨g2, z, rfl⟩ := p
    exact nx H2 z g2
def tChk (K : PySem.W.Frag) (T : List (Addr × Str)) (j : Nat) : TS := tFor (iRng1 (tCons (tCB (uLen K) (tCons (tVar 3) tNil)) tNil)) (gName 4) (tIfS (tNot (L2.tB (tCall (spLikeN K T 4) [] E0 (tCons (tCall (spPartsV K T) [] E0 (tCons (tOp (uIx K) (tVar 2) (tVar 4)) tNil)) (tCons (tLst (tCons (tOp (uIx K) (tVar 3) (tVar 4)) (tCons (tVar j) tNil))) tNil))))) (tRet (tC (.bl false))) tNext)
def tTags (qs : List (Str × Str)) : List TE := qs.map fun q => tC (.str q.1)
theorem w_tags {σ : L2.St} : ∀ (qs : List (Str × Str)) (H : Hp) (QA : List V → Hp → Prop), QA (qs.map fun q => V.str q.1) H → tArgs (tTags qs) σ H QA
  | [], H, QA, q => q
  | c :: r, H, QA, q => by
    show tCons (tC (.str c.1)) (tArgs (tTags r)) σ H QA
    exact w_cons (w_c (w_tags r H _ q))
/-- both rounds -/
theorem w_rounds {qs : List (Str × Str)} {H : Hp} {u v : V} {du dv : PyData} {D : Ends} {z2 z3 z4 : Option V} {rest : TS} (hq : ∀ q ∈ qs, ExV K q ∧ fieldsOf q.1 = [q.2]) (hl : qs.length ≤ 100) (hu : Dp K H u du) (hfu : Flat 2 du) (hsu : Short du) (hv : Dp K H v dv) (hfv : Flat 2 dv) (hsv : Short dv)
    (fin : ∀ H' z2 z3 z4, Gr T H H' → rest D [some u, some v, z2, z3, z4] H') :
    tSeq (tAsg (tLst (tArgs (qs.map (newTe K 0)))) (gName 2)) (tSeq (tAsg (tLst (tArgs (tTags qs))) (gName 3)) (tSeq (tChk K T 0) (tSeq (tAsg (tLst (tArgs (qs.map (newTe K 1)))) (gName 2)) (tSeq (tChk K T 1) rest)))) D [some u, some v, z2, z3, z4] H := by
  with_reducible refine w_seq ?_
  with_reducible refine w_asg ?_
  with_reducible refine w_lstK ?_
  refine w_news (T := T) (u := u) rfl qs H _ (fun q h => (hq q h).1) fun xs H1 g1 h1 => ?_
  have l1 : xs.length = qs.length := Paired.length h1
  refine lstK (by omega) fun m H2 n2 g2 h2 => ?_
  refine w_gname ?_
  with_reducible refine w_seq ?_
  with_reducible refine w_asg ?_
  with_reducible refine w_lstK ?_
  refine w_tags qs H2 _ ?_
  refine lstK (by rw [List.length_map]; omega) fun t H3 n3 g3 h3 => ?_
  refine w_gname ?_
  have pm : ∀ {H1 H2 : Hp} {w : V}, Gr T H1 H2 → ∀ {xs : List V} {qs : List (Str × Str)}, Paired (Made K H1 w) xs qs → Paired (Made K H2 w) xs qs := fun {H1 H2 w} g => by
    intro xs qs h
    induction h with
    | nil => exact .nil
    | cons r t ih => exact .cons (Gr.isx g r) ih
  have G13 : Gr T H1 H3 := (g2 T).trans (g3 T)
  have G3 : Gr T H H3 := g1.trans G13
  with_reducible refine w_seq ?_
  refine w_check (T := T) (u := u) (du := du) (j := 0) hq hl (sqL_of ((g3 T).lst h2)) (sqL_of h3) (pm G13 h1) (G3.dp hu) hfu hsu (fun _ => rfl) fun H4 z g4 => ?_
  with_reducible refine w_seq ?_
  with_reducible refine w_asg ?_
  with_reducible refine w_lstK ?_
  refine w_news (T := T) (u := v) rfl qs H4 _ (fun q h => (hq q h).1) fun ys H5 g5 h5 => ?_
  have l5 : ys.length = qs.length := Paired.length h5
  refine lstK (by omega) fun m2 H6 n6 g6 h6 => ?_
  refine w_gname ?_
  have G46 : Gr T H4 H6 := g5.trans (g6 T)
  have G6 : Gr T H H6 := (G3.trans g4).trans G46
  with_reducible refine w_seq ?_
  refine w_check (T := T) (u := v) (du := dv) (j := 1) hq hl (sqL_of h6) (sqL_of ((g4.trans G46).lst h3)) (pm (g6 T) h5) (G6.dp hv) hfv hsv (fun _ => rfl) fun H7 z g7 => ?_
  exact fin H7 _ _ _ (G6.trans g7)
def spUV (K : PySem.W.Frag) (T : List (Addr × Str)) : Sp := fun vs H Q _ => ∃ u v du dv, vs = [u, v] ∧ Dp K H u du ∧ Flat 2 du ∧ Short du ∧ Dp K H v dv ∧ Flat 2 dv ∧ Short dv ∧ ∀ H', Gr T H H' → Q (.bl true) H'
theorem rd_law_singles (X : ∀ q ∈ cf ++ cf2, ExV K q) : ∀ vs H Q (E : XK), spUV K T vs H Q E → t__law_singles K (spLikeN K T 4) (spPartsV K T) (E_ Q) (start ["u", "v", "made", "tags", "i"] vs) H := by
  intro vs H Q E h
  obtain ⟨u, v, du, dv, rfl, hu, hfu, hsu, hv, hfv, hsv, q⟩ := h
  have hq : ∀ q ∈ cf, ExV K q ∧ fieldsOf q.1 = [q.2] := fun q h => ⟨X q (List.mem_append_left _ h), cf_fields q (List.mem_append_left _ h)⟩
  exact w_rounds (T := T) (rest := tRet (tC (.bl true))) hq (by decide) hu hfu hsu hv hfv hsv fun H' z2 z3 z4 g => q H' g
theorem w_tm {H : Hp} {u v : V} {du dv : PyData} {t : TA} {gV : List V → List V} {σ : L2.St} {Q : VK} (M : TmV K) (hg : gV [u, v] = [u, v]) (h : tNew (He.ga K "TooMany") ["what", "count"] gV t σ H Q → True) : True := trivial
/-- one TooMany, asked -/
theorem tm_one {H : Hp} {a : V} {l2 : Addr} {u v : V} {du dv : PyData} {Q : VK} (M : TmV K) (ha : IsX K H a (He.ga K "TooMany") [("count", v), ("what", u)]) (hu : Dp K H u du) (hfu : Flat 2 du) (hsu : Short du) (hv : Dp K H v dv) (hfv : Flat 2 dv) (hsv : Short dv) (k : ∀ l H', Gr T H H' → H' l = some (.lst [.str "TooMany", u, v]) → Q (.ref l) H') : spPartsV K T [a] H Q E0 := by
  have e : fieldsOf "TooMany" = (["what", "count"] : List Str) := by decide +kernel
  exact ⟨a, _, _, "TooMany", [u, v], rfl, ha, M.kind, by rw [e]; simp, by rw [e]; exact .cons M.noW rfl (.cons M.noC rfl .nil), Nat.le_of_ble_eq_true rfl, k⟩
theorem tm_like {H : Hp} {l l2 : Addr} {u v : V} {du dv : PyData} {Q : VK} (h1 : SqL K H l [.str "TooMany", u, v]) (h2 : SqL K H l2 [.str "TooMany", u, v]) (hu : Dp K H u du) (hfu : Flat 2 du) (hsu : Short du) (hv : Dp K H v dv) (hfv : Flat 2 dv) (hsv : Short dv) (k : ∀ H', Gr T H H' → Q (.bl true) H') : spLikeN K T 4 [.ref l, .ref l2] H Q E0 := by
  refine ⟨.ref l, .ref l2, .list [.str "TooMany", du, dv], rfl, .lst (n := 2) fun d hd => ?_, .lst (by show 3 ≤ 10000; decide) fun d hd => ?_, .lst h1 (.cons (.str _) (.cons hu (.cons hv .nil))), .lst h2 (.cons (.str _) (.cons hu (.cons hv .nil))), k⟩
  · simp only [List.mem_cons, List.not_mem_nil, or_false] at hd
    rcases hd with rfl | rfl | rfl
    · exact .str _
    · exact hfu
    · exact hfv
  · simp only [List.mem_cons, List.not_mem_nil, or_false] at hd
    rcases hd with rfl | rfl | rfl
    · exact .str _
    · exact hsu
    · exact hsv
theorem new_tm {H : Hp} {u v : V} (M : TmV K) {Q : VK} {gV : List V → List V} {zs : List V} (hz : zs.length = 2) (hg : gV zs = [u, v]) (k : ∀ x H', Gr T H H' → IsX K H' x (He.ga K "TooMany") [("count", v), ("what", u)] → Q x H') :
    zs.length = (["what", "count"] : List Str).length ∧ (gV zs).length = (["what", "count"] : List Str).length ∧ ∀ a d, H a = none → H d = none → d ≠ a → Q (.ref a) (upd (upd H d (exd d ((["what", "count"] : List Str).zip (gV zs)).reverse)) a (exo a (He.ga K "TooMany") (some d))) := by
  refine ⟨hz, by rw [hg]; rfl, fun a d na nd da => ?_⟩
  rw [hg]
  have g1 : Gr T H (upd H d (exd d ((["what", "count"] : List Str).zip [u, v]).reverse)) := Gr.new nd
  have na1 : (upd H d (exd d ((["what", "count"] : List Str).zip [u, v]).reverse)) a = none := by rw [upd_ne (fun z => da z.symm)]; exact na
  have g2 := Gr.new (T := T) (o := exo a (He.ga K "TooMany") (some d)) na1
  exact k _ _ (g1.trans g2) ⟨a, d, rfl, M.own, upd_same, by rw [upd_ne da, upd_same]; rfl⟩
theorem w_tm2 {H : Hp} {u v a0 a1 : V} (M : TmV K) {σ : L2.St} {Q : VK} {gV : List V → List V} (e0 : σ[0]? = some (some a0)) (e1 : σ[1]? = some (some a1)) (hg : gV [a0, a1] = [u, v]) (k : ∀ x H', Gr T H H' → IsX K H' x (He.ga K "TooMany") [("count", v), ("what", u)] → Q x H') :
    tNew (He.ga K "TooMany") ["what", "count"] gV (tCons (tVar 0) (tCons (tVar 1) tNil)) σ H Q := w_new (w_cons (w_var e0 (w_cons (w_var e1 (w_nil (new_tm (T := T) (Q := Q) M rfl hg k))))))
theorem rd_law_others (X : ∀ q ∈ cf ++ cf2, ExV K q) (M : TmV K) : ∀ vs H Q (E : XK), spUV K T vs H Q E → t__law_others K (spLikeN K T 4) (spPartsV K T) (E_ Q) (start ["u", "v", "made", "tags", "i"] vs) H := by
  intro vs H Q E h
  obtain ⟨u, v, du, dv, rfl, hu, hfu, hsu, hv, hfv, hsv, q⟩ := h
  have hq : ∀ q ∈ cf2, ExV K q ∧ fieldsOf q.1 = [q.2] := fun q h => ⟨X q (List.mem_append_right _ h), cf_fields q (List.mem_append_right _ h)⟩
  refine w_rounds (T := T) (rest := (tRet (tAndV (tCall (spLikeN K T 4) [] E0 (tCons (tCall (spPartsV K T) [] E0 (tCons (tNew (He.ga K "TooMany") ["what", "count"] (fun vs => vs) (tCons (tVar 0) (tCons (tVar 1) tNil))) tNil)) (tCons (tLst (tCons (tC (.str "TooMany")) (tCons (tVar 0) (tCons (tVar 1) tNil)))) tNil))) (tCall (spLikeN K T 4) [] E0 (tCons (tCall (spPartsV K T) [] E0 (tCons (tNew (He.ga K "TooMany") ["what", "count"] List.reverse (tCons (tVar 0) (tCons (tVar 1) tNil))) tNil)) (tCons (tLst (tCons (tC (.str "TooMany")) (tCons (tVar 1) (tCons (tVar 0) tNil)))) tNil)))))) hq (by decide) hu hfu hsu hv hfv hsv fun H' z2 z3 z4 g => ?_
  refine w_ret (w_andV (w_call0 (w_cons (w_call0 (w_cons (w_tm2 (T := T) (u := u) (v := v) M rfl rfl rfl fun x H1 g1 h1 => w_nil ?_))))))
  have G1 := g.trans g1
  refine tm_one (l2 := 0) M h1 (G1.dp hu) hfu hsu (G1.dp hv) hfv hsv fun l H2 g2 h2 => ?_
  refine w_cons (w_lstK (w_cons (w_c (w_cons (w_var rfl (w_cons (w_var rfl (w_nil (lstK (Nat.le_of_ble_eq_true rfl) fun l2 H3 n3 g3 h3 => w_nil ?_)))))))))
  have G3 := (G1.trans g2).trans (g3 T)
  refine tm_like (sqL_of ((g3 T).lst h2)) (sqL_of h3) (G3.dp hu) hfu hsu (G3.dp hv) hfv hsv fun H4 g4 => ⟨true, rfl, ?_⟩
  rw [if_pos rfl]
  have G4 := G3.trans g4
  refine w_call0 (w_cons (w_call0 (w_cons (w_tm2 (T := T) (u := v) (v := u) M rfl rfl rfl fun x H5 g5 h5 => w_nil ?_))))
  have G5 := G4.trans g5
  refine tm_one (l2 := 0) M h5 (G5.dp hv) hfv hsv (G5.dp hu) hfu hsu fun l H6 g6 h6 => ?_
  refine w_cons (w_lstK (w_cons (w_c (w_cons (w_var rfl (w_cons (w_var rfl (w_nil (lstK (Nat.le_of_ble_eq_true rfl) fun l2 H7 n7 g7 h7 => w_nil ?_)))))))))
  have G7 := (G5.trans g6).trans (g7 T)
  exact tm_like (sqL_of ((g7 T).lst h6)) (sqL_of h7) (G7.dp hv) hfv hsv (G7.dp hu) hfu hsu fun H8 g8 => q H8 (G7.trans g8)
end K00
end
section
set_option Elab.async false
set_option linter.all false
set_option maxRecDepth 100000
set_option maxHeartbeats 4000000
namespace K00
open PySem PySem.Spec PyProof.Rows L2 LamX U Evl TL L2H HotX LHot LX LV NdefX LW
/-! ### steps, by program -/
local macro_rules | `(tactic| walk_at "kp") => `(tactic| first
  | assumption
  | exact sqA_of (by assumption)
  | exact sqB_of (by assumption)
  | exact sqL_of (by assumption)
  | exact sqT_of (by assumption)
  | exact Or.inl (by assumption)
  | exact Or.inr (by assumption)
  | exact Gr.refl _ _
  | exact GrA.gr (by assumption)
  | (apply Gr.trans ?_ (by first | assumption | exact GrA.gr (by assumption)); walk_at "kp")
  | (apply Gr.xd; (first | assumption | exact GrA.gr (T := []) (by assumption)); walk_at "kp")
  | (apply Gr.sq; (first | assumption | exact GrA.gr (T := []) (by assumption)); walk_at "kp")
  | (apply Gr.sqL; (first | assumption | exact GrA.gr (T := []) (by assumption)); walk_at "kp")
  | (apply Gr.sqT; (first | assumption | exact GrA.gr (T := []) (by assumption)); walk_at "kp")
  | (apply Gr.lst; (first | assumption | exact GrA.gr (T := []) (by assumption)); walk_at "kp")
  | (apply Gr.tup; (first | assumption | exact GrA.gr (T := []) (by assumption)); walk_at "kp"))
local macro_rules | `(tactic| walk_at "s") => `(tactic| first
  | with_reducible first
    | refine w_seq ?_ | refine w_asg ?_ | refine w_gname ?_ | refine w_if ?_ | refine w_ret ?_ | refine w_next ?_ | refine w_drop ?_ | refine w_retN ?_ | refine w_brk ?_ | refine w_cont ?_ | refine w_gsub ?_
    | refine w_op ?_ | refine w_c ?_ | refine w_nil ?_ | refine w_cons ?_ | refine w_cb ?_ | refine w_un ?_
    | refine w_I0 ?_ | refine w_U ?_ | refine w_add ?_ | refine w_test ?_ | refine w_tB ?_ | refine w_tr ?_ | refine w_exn ?_ | refine w_trn ?_ | refine w_and ?_ | refine w_or ?_ | refine w_not ?_ | refine w_andV ?_ | refine w_orV ?_ | refine w_notV ?_ | refine w_ifE ?_
    | refine w_eqI ?_ | refine w_neI ?_ | refine w_eqS ?_ | refine w_neS ?_ | refine w_eqB ?_ | refine w_neB ?_ | refine w_isNo ?_ | refine w_notN ?_
    | refine w_call0 ?_ | refine w_tupK ?_ | refine w_lstK ?_ | refine w_bm ?_ | refine w_nop ?_ | refine w_part ?_ | refine w_exi ?_ | refine w_sl ?_
    | refine w_lcS ?_ | refine w_lcR1 ?_ | refine w_lcR2 ?_ | refine w_lcE ?_ | refine w_frS ?_ | refine w_frR1 ?_ | refine w_frR2 ?_ | refine w_frE ?_ | refine w_frT ?_
    | refine w_tYes ?_ | refine w_lcH ?_ | refine w_callE ?_ | refine w_iteD ?_ | refine w_iteND ?_ | refine w_raise ?_ | refine raK1 ?_ | refine raK2 ?_ | refine w_iteNT ?_ | refine w_iteNF ?_ | refine w_ckw ?_ | refine w_callN ?_ | refine w_m1 ?_ | refine w_yes1 ?_ | refine w_iteT ?_ | refine w_iteF ?_ | refine w_abs ?_ | refine w_max2 ?_ | refine w_max3 ?_ | refine w_min2 ?_ | refine w_intI ?_
  | (with_reducible apply w_var; with_unfolding_all rfl)
  | (with_reducible apply w_lenI; walk_at "kp")
  | (with_reducible apply w_len; walk_at "kp")
  | (with_reducible apply w_sum; walk_at "kp")
  | (with_reducible refine lstK ?_ ?_; exact Nat.le_of_ble_eq_true rfl)
  | (with_reducible refine tupK ?_ ?_; exact Nat.le_of_ble_eq_true rfl)
  | (with_reducible apply w_list; walk_at "kp")
  | (with_reducible apply w_tuple; walk_at "kp")
  | (with_reducible apply w_slI; walk_at "kp")
  | (with_reducible apply w_inI; walk_at "kp")
  | (with_reducible apply w_notInI; walk_at "kp"))
local macro_rules | `(tactic| walk_at "go") => `(tactic| repeat' (walk_at "s"))
variable {K : PySem.W.Frag} {T : List (Addr × Str)}
def spLaw (K : PySem.W.Frag) : Sp := fun vs H Q _ => ∃ (a : Addr) (ns : List Int), vs = [.ref a] ∧ SqL K H a (ns.map V.int) ∧ Tabs (TT K) H ∧ ∀ H', Gr (TT K) H H' → Q (.bl true) H'
theorem parse_m03 : partsOf "-0/3" = some (0, 3) := by decide +kernel
theorem rd_law : ∀ vs H Q (E : XK), spLaw K vs H Q E → t_law K (spBag K (TT K)) (spJar1 K) (spJar1 K) (spThing K (TT K)) (spJar1 K) (spUV K (TT K)) (spUV K (TT K)) (spAsked K) (E_ Q) (start ["script", "jar", "turn", "u", "v"] vs) H := by
  intro vs H Q E h
  obtain ⟨a, ns, rfl, hs, htab, q⟩ := h
  unfold t_law
  have s0 : Sm 0 := by unfold Sm; decide +kernel
  have s3 : Sm 3 := by unfold Sm; decide +kernel
  walk_at "go"
  refine ⟨a, ns, rfl, hs, fun J H1 g1 hj => ?_⟩
  walk_at "go"
  refine fr_R1 (by decide) (by decide) (fun i σ H' => Gr (TT K) H1 H' ∧ ∃ z, σ = [some (.ref a), some (.ref J), z, none, none]) ⟨Gr.refl _ _, _, rfl⟩ (fun i σ' H2 hi p => ?_) (fun σ' H2 p => ?_)
  · obtain ⟨g2, z, rfl⟩ := p
    have G2 : Gr (TT K) H H2 := g1.trans g2
    walk_at "go"
    refine ⟨J, rfl, G2.tabs htab, g2.jar hj, fun H3 g3 => ?_⟩
    have G3 := G2.trans g3
    walk_at "go"
    refine ⟨J, rfl, G3.tabs htab, (g2.trans g3).jar hj, fun H4 g4 => ?_⟩
    have G4 := G3.trans g4
    walk_at "go"
    refine ⟨J, rfl, G4.tabs htab, ((g2.trans g3).trans g4).jar hj, fun H5 g5 => ?_⟩
    walk_at "go"
    exact ⟨((g2.trans g3).trans g4).trans g5, _, rfl⟩
  · obtain ⟨g2, z, rfl⟩ := p
    have G2 : Gr (TT K) H H2 := g1.trans g2
    have hj2 := g2.jar hj
    walk_at "go"
    refine ⟨J, rfl, hj2, fun u du H3 g3 hu hfu hsu => ?_⟩
    have hj3 := g3.jar hj2
    walk_at "go"
    refine ⟨J, rfl, hj3, fun v dv H4 g4 hv hfv hsv => ?_⟩
    have hj4 := g4.jar hj3
    have G4 : Gr (TT K) H H4 := (G2.trans g3).trans g4
    have hu4 := g4.dp hu
    walk_at "go"
    refine ⟨J, rfl, G4.tabs htab, hj4, fun H5 g5 => ?_⟩
    walk_at "go"
    refine ⟨u, v, du, dv, rfl, g5.dp hu4, hfu, hsu, g5.dp hv, hfv, hsv, fun H6 g6 => ?_⟩
    have g56 := g5.trans g6
    walk_at "go"
    refine ⟨v, u, dv, du, rfl, g56.dp hv, hfv, hsv, g56.dp hu4, hfu, hsu, fun H7 g7 => ?_⟩
    have G7 := G4.trans (g56.trans g7)
    walk_at "go"
    intro p1 H8 n8 g8 h8
    have G8 := G7.trans (g8 (TT K))
    walk_at "go"
    refine asked_of (G8.tabs htab) (.int 0 s0) (sqT_of h8) fun H9 g9 => ?_
    have G9 := G8.trans g9
    walk_at "go"
    intro p2 Ha na ga ha
    have Ga := G9.trans (ga (TT K))
    walk_at "go"
    refine asked_of (Ga.tabs htab) (num_txt parse_m03 (by decide +kernel) s0 s3 (by decide)) (sqT_of ha) fun Hb gb => ?_
    exact q Hb (Ga.trans gb)
end K00
end
set_option Elab.async false
set_option linter.all false
set_option maxRecDepth 100000
set_option maxHeartbeats 4000000
/-! the defs joined, printed by mk_n12.py -/
namespace K00
open PySem PySem.Spec PyProof.Rows L2 LamX U Evl TL L2H HotX LHot LX LV NdefX LW
theorem Has_mono {P : Program} {w : World} {K : PySem.W.Frag} {mg : Str → Option Value} {base : Heap} {x : Str} {j k : Nat} {ps : List Str} {sp : Sp} (h : Has P w K mg base x j ps sp) (hjk : j ≤ k) : Has P w K mg base x k ps sp := by
  obtain ⟨g, kp, fd, F, B⟩ := h
  exact ⟨g, kp, fd, F.mono hjk, B⟩
/-- what the written part says of the classes -/
structure All (K : PySem.W.Frag) : Prop where
  rows : ∀ q ∈ rowsC, LW.ownB K q.1 q.2.1 q.2.2 = true
  base : LW.baseB K (He.ga K "Refused") = true
  nod : LW.nodB K = true
theorem shape_own {K : PySem.W.Frag} {c : Str} {r : Bool} {b : Bs} (h : LW.ownB K c r b = true) : Shape K (He.ga K c) (if r = true then [.ref (He.ga K "Refused")] else []) b := by
  unfold LW.ownB at h
  simp only [Bool.and_eq_true] at h
  exact shape_of h.1
theorem words_split : wordsL = rowsC.map (fun q => q.1) ++ [("Refused" : Str)] := by decide +kernel
theorem All.cls {K : PySem.W.Frag} (A : All K) : ∀ x ∈ wordsL, IsCls K (He.ga K x) := by
  intro x hx
  rw [words_split] at hx
  rcases List.mem_append.mp hx with h | h
  · obtain ⟨q, hq, rfl⟩ := List.mem_map.mp h
    exact isCls_shape (shape_own (A.rows q hq))
  · have e : x = "Refused" := by simpa using h
    rw [e]
    exact isCls_base A.base
theorem All.kind {K : PySem.W.Frag} (A : All K) {q : Str × Bool × Bs} (hq : q ∈ rowsC) : KindC K (He.ga K q.1) q.1 := kind_ok A.nod A.cls hq (shape_own (A.rows q hq))
theorem All.own {K : PySem.W.Frag} (A : All K) {q : Str × Bool × Bs} (hq : q ∈ rowsC) : OwnG K (He.ga K q.1) := (own_ok (A.rows q hq) A.base).1
theorem All.no {K : PySem.W.Frag} (A : All K) {q : Str × Bool × Bs} (hq : q ∈ rowsC) {f : Str} (hf : flds.contains f = true) : PySem.W.findIn K (.ref (He.ga K q.1)) f = some none := (own_ok (A.rows q hq) A.base).2 f (by simpa using hf)
theorem rows_at (i : Nat) (q : Str × Bool × Bs) (h : rowsC[i]? = some q := by rfl) : q ∈ rowsC := List.mem_of_getElem? h
theorem cf_rows : ∀ q ∈ cf ++ cf2, (∃ r ∈ rowsC, r.1 = q.1) ∧ flds.contains q.2 = true := by
  have h : ((cf ++ cf2).all fun q => (rowsC.any fun r => decide (r.1 = q.1)) && flds.contains q.2) = true := by decide +kernel
  intro q hq
  have h1 := List.all_eq_true.mp h q hq
  rw [Bool.and_eq_true] at h1
  obtain ⟨r, hr, e⟩ := List.any_eq_true.mp h1.1
  exact ⟨⟨r, hr, of_decide_eq_true e⟩, h1.2⟩
theorem All.exv {K : PySem.W.Frag} (A : All K) : ∀ q ∈ cf ++ cf2, ExV K q := by
  intro q hq
  obtain ⟨⟨r, hr, e⟩, hf⟩ := cf_rows q hq
  refine ⟨e ▸ A.own hr, e ▸ A.kind hr, ?_⟩
  have z := A.no hr hf
  rw [e] at z
  exact z
theorem exs_of {K : PySem.W.Frag} (h : ex K = true) : All K ∧ Exs K ∧ TmV K ∧ PySem.W.nsIn K mainGlobals "gcd" = some (some (.builtin "math.gcd")) := by
  simp only [ex, ex_0, ex_1, ex_2, Bool.and_eq_true] at h
  obtain ⟨⟨o_BadNumber, x_BadNumber, w_BadNumber, w_BadSum, w_BadQuotient, w_BadLandscape, w_BadWell, w_BadWall, w_BadShape, w_BadRoll, w_BadOperator, w_BadSymbol⟩, ⟨w_BadStep, w_BadPaper, w_BadName, w_BadScript, w_Barred, w_Unlike, w_HasResidue, w_NotKept, o_TooMany, x_TooMany, w_TooMany, w_NoSuch⟩, ⟨w_Ended, b_Refused, nodB, m_gcd⟩⟩ := h
  have A : All K := ⟨fun q hq => by
    simp only [rowsC, List.mem_cons, List.not_mem_nil, or_false] at hq
    rcases hq with rfl | rfl | rfl | rfl | rfl | rfl | rfl | rfl | rfl | rfl | rfl | rfl | rfl | rfl | rfl | rfl | rfl | rfl | rfl | rfl | rfl
    · exact w_BadNumber
    · exact w_BadSum
    · exact w_BadQuotient
    · exact w_BadLandscape
    · exact w_BadWell
    · exact w_BadWall
    · exact w_BadShape
    · exact w_BadRoll
    · exact w_BadOperator
    · exact w_BadSymbol
    · exact w_BadStep
    · exact w_BadPaper
    · exact w_BadName
    · exact w_BadScript
    · exact w_Barred
    · exact w_Unlike
    · exact w_HasResidue
    · exact w_NotKept
    · exact w_TooMany
    · exact w_NoSuch
    · exact w_Ended
    , b_Refused, nodB⟩
  refine ⟨A, ⟨LE.ownB_ok o_BadNumber, A.kind (rows_at 0 ("BadNumber", true, .v)), A.no (rows_at 0 ("BadNumber", true, .v)) (by decide +kernel), of_decide_eq_true x_BadNumber, LE.ownB_ok o_TooMany, A.kind (rows_at 18 ("TooMany", true, .v)), A.no (rows_at 18 ("TooMany", true, .v)) (by decide +kernel), A.no (rows_at 18 ("TooMany", true, .v)) (by decide +kernel), of_decide_eq_true x_TooMany⟩, ⟨A.own (rows_at 18 ("TooMany", true, .v)), A.kind (rows_at 18 ("TooMany", true, .v)), A.no (rows_at 18 ("TooMany", true, .v)) (by decide +kernel), A.no (rows_at 18 ("TooMany", true, .v)) (by decide +kernel)⟩, He.eqO_ok m_gcd⟩
theorem glob_of {K : PySem.W.Frag} {mg : Str → Option Value} {h : Heap} (X : K.In h) (N : h.Ns mainGlobals mg) (c : He.SaysD fa fn K) (hg : PySem.W.nsIn K mainGlobals "gcd" = some (some (.builtin "math.gcd"))) : Glob K mg where
  g_ask_text := He.glo_ok X N (c.fact 0 (f := .glo "ask_text") rfl)
  g_ask_digits := He.glo_ok X N (c.fact 1 (f := .glo "ask_digits") rfl)
  g_ten_to := He.glo_ok X N (c.fact 2 (f := .glo "ten_to") rfl)
  g_digit_count := He.glo_ok X N (c.fact 3 (f := .glo "digit_count") rfl)
  g_is_digits := He.glo_ok X N (c.fact 4 (f := .glo "is_digits") rfl)
  g_whole_of := He.glo_ok X N (c.fact 5 (f := .glo "whole_of") rfl)
  g_is_whole := He.glo_ok X N (c.fact 6 (f := .glo "is_whole") rfl)
  g_pair_of := He.glo_ok X N (c.fact 7 (f := .glo "pair_of") rfl)
  g_text_of := He.glo_ok X N (c.fact 8 (f := .glo "text_of") rfl)
  g_text_parts := He.glo_ok X N (c.fact 9 (f := .glo "text_parts") rfl)
  g_number_parts := He.glo_ok X N (c.fact 10 (f := .glo "number_parts") rfl)
  g_most_of_parts := He.glo_ok X N (c.fact 11 (f := .glo "most_of_parts") rfl)
  g_read_number := He.glo_ok X N (c.fact 12 (f := .glo "read_number") rfl)
  g_number_text := He.glo_ok X N (c.fact 13 (f := .glo "number_text") rfl)
  g__law_jar := He.glo_ok X N (c.fact 14 (f := .glo "_law_jar") rfl)
  g__law_draw := He.glo_ok X N (c.fact 15 (f := .glo "_law_draw") rfl)
  g__law_pick := He.glo_ok X N (c.fact 16 (f := .glo "_law_pick") rfl)
  g__law_reach := He.glo_ok X N (c.fact 17 (f := .glo "_law_reach") rfl)
  g__law_like := He.glo_ok X N (c.fact 18 (f := .glo "_law_like") rfl)
  g__law_classes := He.glo_ok X N (c.fact 19 (f := .glo "_law_classes") rfl)
  g__law_fields := He.glo_ok X N (c.fact 20 (f := .glo "_law_fields") rfl)
  g__law_parts_of := He.glo_ok X N (c.fact 21 (f := .glo "_law_parts_of") rfl)
  g__law_tried := He.glo_ok X N (c.fact 22 (f := .glo "_law_tried") rfl)
  g__law_refused := He.glo_ok X N (c.fact 23 (f := .glo "_law_refused") rfl)
  g__law_gcd := He.glo_ok X N (c.fact 24 (f := .glo "_law_gcd") rfl)
  g__law_low := He.glo_ok X N (c.fact 25 (f := .glo "_law_low") rfl)
  g__law_word := He.glo_ok X N (c.fact 26 (f := .glo "_law_word") rfl)
  g__law_digits := He.glo_ok X N (c.fact 27 (f := .glo "_law_digits") rfl)
  g__law_reads := He.glo_ok X N (c.fact 28 (f := .glo "_law_reads") rfl)
  g__law_due := He.glo_ok X N (c.fact 29 (f := .glo "_law_due") rfl)
  g__law_integer := He.glo_ok X N (c.fact 30 (f := .glo "_law_integer") rfl)
  g__law_asked := He.glo_ok X N (c.fact 31 (f := .glo "_law_asked") rfl)
  g__law_forms := He.glo_ok X N (c.fact 32 (f := .glo "_law_forms") rfl)
  g__law_bent := He.glo_ok X N (c.fact 33 (f := .glo "_law_bent") rfl)
  g__law_strange := He.glo_ok X N (c.fact 34 (f := .glo "_law_strange") rfl)
  g__law_thing := He.glo_ok X N (c.fact 35 (f := .glo "_law_thing") rfl)
  g__law_singles := He.glo_ok X N (c.fact 36 (f := .glo "_law_singles") rfl)
  g__law_others := He.glo_ok X N (c.fact 37 (f := .glo "_law_others") rfl)
  g_law := He.glo_ok X N (c.fact 38 (f := .glo "law") rfl)
  g_Refused := He.glo_ok X N (c.fact 39 (f := .glo "Refused") rfl)
  g_BadNumber := He.glo_ok X N (c.fact 40 (f := .glo "BadNumber") rfl)
  g_BadSum := He.glo_ok X N (c.fact 41 (f := .glo "BadSum") rfl)
  g_BadQuotient := He.glo_ok X N (c.fact 42 (f := .glo "BadQuotient") rfl)
  g_BadLandscape := He.glo_ok X N (c.fact 43 (f := .glo "BadLandscape") rfl)
  g_BadWell := He.glo_ok X N (c.fact 44 (f := .glo "BadWell") rfl)
  g_BadWall := He.glo_ok X N (c.fact 45 (f := .glo "BadWall") rfl)
  g_BadShape := He.glo_ok X N (c.fact 46 (f := .glo "BadShape") rfl)
  g_BadRoll := He.glo_ok X N (c.fact 47 (f := .glo "BadRoll") rfl)
  g_BadOperator := He.glo_ok X N (c.fact 48 (f := .glo "BadOperator") rfl)
  g_BadSymbol := He.glo_ok X N (c.fact 49 (f := .glo "BadSymbol") rfl)
  g_BadStep := He.glo_ok X N (c.fact 50 (f := .glo "BadStep") rfl)
  g_BadPaper := He.glo_ok X N (c.fact 51 (f := .glo "BadPaper") rfl)
  g_BadName := He.glo_ok X N (c.fact 52 (f := .glo "BadName") rfl)
  g_BadScript := He.glo_ok X N (c.fact 53 (f := .glo "BadScript") rfl)
  g_Barred := He.glo_ok X N (c.fact 54 (f := .glo "Barred") rfl)
  g_Unlike := He.glo_ok X N (c.fact 55 (f := .glo "Unlike") rfl)
  g_HasResidue := He.glo_ok X N (c.fact 56 (f := .glo "HasResidue") rfl)
  g_NotKept := He.glo_ok X N (c.fact 57 (f := .glo "NotKept") rfl)
  g_TooMany := He.glo_ok X N (c.fact 58 (f := .glo "TooMany") rfl)
  g_NoSuch := He.glo_ok X N (c.fact 59 (f := .glo "NoSuch") rfl)
  g_Ended := He.glo_ok X N (c.fact 60 (f := .glo "Ended") rfl)
  i_MOST_DIGITS := He.int_ok X N (c.fact 61 (f := .int "MOST_DIGITS" (60)) rfl)
  i_MOST_TEXT := He.int_ok X N (c.fact 62 (f := .int "MOST_TEXT" (60000)) rfl)
  i_CHUNK := He.int_ok X N (c.fact 63 (f := .int "CHUNK" (1000)) rfl)
  z_FIGURES := He.str_ok X N (c.fact 64 (f := .str "FIGURES" "0123456789") rfl)
  b_LookupError := He.free_ok X N (c.fact 65 (f := .free "LookupError") rfl)
  b_RuntimeError := He.free_ok X N (c.fact 66 (f := .free "RuntimeError") rfl)
  b_ValueError := He.free_ok X N (c.fact 67 (f := .free "ValueError") rfl)
  b_abs := He.free_ok X N (c.fact 68 (f := .free "abs") rfl)
  b_bool := He.free_ok X N (c.fact 69 (f := .free "bool") rfl)
  b_int := He.free_ok X N (c.fact 70 (f := .free "int") rfl)
  b_isinstance := He.free_ok X N (c.fact 71 (f := .free "isinstance") rfl)
  b_len := He.free_ok X N (c.fact 72 (f := .free "len") rfl)
  b_list := He.free_ok X N (c.fact 73 (f := .free "list") rfl)
  b_max := He.free_ok X N (c.fact 74 (f := .free "max") rfl)
  b_range := He.free_ok X N (c.fact 75 (f := .free "range") rfl)
  b_str := He.free_ok X N (c.fact 76 (f := .free "str") rfl)
  b_tuple := He.free_ok X N (c.fact 77 (f := .free "tuple") rfl)
  m_gcd := PySem.W.mg_of X N hg
section
variable {P : Program} {w : World} {K : PySem.W.Frag} {mg : Str → Option Value} {base : Heap}
theorem fo_read_number (G : Glob K mg) {sp_ask_text : Sp} (h_ask_text : Has P w K mg base "ask_text" 3 ["count"] sp_ask_text) {sp_number_parts : Sp} (h_number_parts : Has P w K mg base "number_parts" 3 ["thing"] sp_number_parts) {sp_ask_digits : Sp} (h_ask_digits : Has P w K mg base "ask_digits" 3 ["count"] sp_ask_digits) {sp_most_of_parts : Sp} (h_most_of_parts : Has P w K mg base "most_of_parts" 3 ["top", "bottom"] sp_most_of_parts) {sp_pair_of : Sp} (h_pair_of : Has P w K mg base "pair_of" 1 ["top", "bottom"] sp_pair_of) {fdI_BadNumber : FuncData} (O_BadNumber : LE.Own K (He.ga K "BadNumber")) (I_BadNumber : FnOk P w K mg base (L2N.CX P w) 1 (He.ma K (He.ga K "BadNumber") "__init__") fdI_BadNumber ["self", "at"] (spI (He.ga K "BadNumber") ["at"])) (J_BadNumber : Binds K fdI_BadNumber ["self", "at"] []) {fd : FuncData} (F : FunD K "read_number" "read_number" (defArgs s_read_number) (defBody s_read_number) (defScope s_read_number) [] [] (He.ga K "read_number") fd) {sp : Sp} (len : ∀ vs H Q E, sp vs H Q E → vs.length = 1)
    (rd : ∀ vs H Q E, sp vs H Q E → t_read_number K sp_ask_text sp_number_parts sp_ask_digits sp_most_of_parts sp_pair_of E { nx := fun _ H' => Q .non H', rt := Q } (start ["thing", "parts", "top", "bottom"] vs) H) : FnOk P w K mg base (L2N.CX P w) 4 (He.ga K "read_number") fd ["thing"] sp := by
  have nd := (sc_read_number).nd
  refine F.ok sc_read_number len (fun cdv A outer s H vs Q E hr h => ⟨t_read_number K sp_ask_text sp_number_parts sp_ask_digits sp_most_of_parts sp_pair_of E, ?_, rd vs H Q E h⟩)
  have tk := L2N.takes_of (X := cxOf (L2N.CX P w) P w K mg base ["thing", "parts", "top", "bottom"] "read_number" (defScope s_read_number) (He.ga K "read_number") cdv A outer s H E) (E := E) rfl rfl rfl rfl
  exact (pss_cons (ps_if (pt_val (pe_callB call_isi (by rfl) G.b_isinstance (by first | rfl | kernel_rfl) (pa_cons (pv 0) (pa_cons (pe_bltn (v := .ty "str") (by rfl) G.b_str (by first | rfl | kernel_rfl) rfl) pa_nil)))) (pss_one (ps_expr (pe_callU h_ask_text hr (by decide) (by rfl) (L2N.passes_call tk fun _ _ _ _ h => h) (pa_cons (pe_callB cr_len (by rfl) G.b_len (by first | rfl | kernel_rfl) (pa_cons (pv 0) pa_nil)) pa_nil)))) pss_nil)
      (pss_cons (ps_set (i := 1) nd rfl (by first | exact Or.inl rfl | exact Or.inr rfl) (pe_callU h_number_parts hr (by decide) (by rfl) (L2N.passes_call tk fun _ _ _ _ h => h) (pa_cons (pv 0) pa_nil)))
      (pss_cons (ps_if (pt_cmpR op_isN1 (pv 1) pe_non (by rfl)) (pss_one (ps_raiseU rfl tk (O_BadNumber) I_BadNumber J_BadNumber hr (by decide) (by rfl) G.g_BadNumber (by decide) (mono_cons (by first | exact mono_var | exact mono_c | exact mono_abs (mono_cons mono_var mono_nil)) mono_nil) (pa_cons pe_int pa_nil))) pss_nil)
      (pss_cons (ps_asg (pv 1) (pg_tup rfl (pgs_cons (pg_name (i := 2) nd rfl (by first | exact Or.inl rfl | exact Or.inr rfl) (by first | exact Or.inl rfl | exact Or.inr rfl)) (pgs_cons (pg_name (i := 3) nd rfl (by first | exact Or.inl rfl | exact Or.inr rfl) (by first | exact Or.inl rfl | exact Or.inr rfl)) pgs_nil))))
      (pss_cons (ps_expr (pe_callU h_ask_digits hr (by decide) (by rfl) (L2N.passes_call tk fun _ _ _ _ h => h) (pa_cons (pe_callU h_most_of_parts hr (by decide) (by rfl) (L2N.passes_call tk fun _ _ _ _ h => h) (pa_cons (pv 2) (pa_cons (pv 3) pa_nil))) pa_nil)))
      (pss_one (ps_ret (pe_callU h_pair_of hr (by decide) (by rfl) (L2N.passes_call tk fun _ _ _ _ h => h) (pa_cons (pv 2) (pa_cons (pv 3) pa_nil))))))))))
theorem fo_number_text (G : Glob K mg) {sp_read_number : Sp} (h_read_number : Has P w K mg base "read_number" 4 ["thing"] sp_read_number) {sp_text_of : Sp} (h_text_of : Has P w K mg base "text_of" 1 ["top", "bottom"] sp_text_of) {fd : FuncData} (F : FunD K "number_text" "number_text" (defArgs s_number_text) (defBody s_number_text) (defScope s_number_text) [] [] (He.ga K "number_text") fd) {sp : Sp} (len : ∀ vs H Q E, sp vs H Q E → vs.length = 1)
    (rd : ∀ vs H Q E, sp vs H Q E → t_number_text K sp_read_number sp_text_of E { nx := fun _ H' => Q .non H', rt := Q } (start ["thing", "top", "bottom"] vs) H) : FnOk P w K mg base (L2N.CX P w) 5 (He.ga K "number_text") fd ["thing"] sp := by
  have nd := (sc_number_text).nd
  refine F.ok sc_number_text len (fun cdv A outer s H vs Q E hr h => ⟨t_number_text K sp_read_number sp_text_of E, ?_, rd vs H Q E h⟩)
  have tk := L2N.takes_of (X := cxOf (L2N.CX P w) P w K mg base ["thing", "top", "bottom"] "number_text" (defScope s_number_text) (He.ga K "number_text") cdv A outer s H E) (E := E) rfl rfl rfl rfl
  exact (pss_cons (ps_asg (pe_callU h_read_number hr (by decide) (by rfl) (L2N.passes_call tk fun _ _ _ _ h => h) (pa_cons (pv 0) pa_nil)) (pg_tup rfl (pgs_cons (pg_name (i := 1) nd rfl (by first | exact Or.inl rfl | exact Or.inr rfl) (by first | exact Or.inl rfl | exact Or.inr rfl)) (pgs_cons (pg_name (i := 2) nd rfl (by first | exact Or.inl rfl | exact Or.inr rfl) (by first | exact Or.inl rfl | exact Or.inr rfl)) pgs_nil))))
      (pss_one (ps_ret (pe_callU h_text_of hr (by decide) (by rfl) (L2N.passes_call tk fun _ _ _ _ h => h) (pa_cons (pv 1) (pa_cons (pv 2) pa_nil))))))
theorem fo_law (G : Glob K mg) {sp__law_jar : Sp} (h__law_jar : Has P w K mg base "_law_jar" 1 ["script"] sp__law_jar) {sp__law_forms : Sp} (h__law_forms : Has P w K mg base "_law_forms" 13 ["jar"] sp__law_forms) {sp__law_bent : Sp} (h__law_bent : Has P w K mg base "_law_bent" 13 ["jar"] sp__law_bent) {sp__law_thing : Sp} (h__law_thing : Has P w K mg base "_law_thing" 3 ["jar"] sp__law_thing) {sp__law_strange : Sp} (h__law_strange : Has P w K mg base "_law_strange" 13 ["jar"] sp__law_strange) {sp__law_singles : Sp} (h__law_singles : Has P w K mg base "_law_singles" 6 ["u", "v"] sp__law_singles) {sp__law_others : Sp} (h__law_others : Has P w K mg base "_law_others" 6 ["u", "v"] sp__law_others) {sp__law_asked : Sp} (h__law_asked : Has P w K mg base "_law_asked" 12 ["given", "pair"] sp__law_asked) {fd : FuncData} (F : FunD K "law" "law" (defArgs s_law) (defBody s_law) (defScope s_law) [] [] (He.ga K "law") fd) {sp : Sp} (len : ∀ vs H Q E, sp vs H Q E → vs.length = 1)
    (rd : ∀ vs H Q E, sp vs H Q E → t_law K sp__law_jar sp__law_forms sp__law_bent sp__law_thing sp__law_strange sp__law_singles sp__law_others sp__law_asked { nx := fun _ H' => Q .non H', rt := Q } (start ["script", "jar", "turn", "u", "v"] vs) H) : FnOk P w K mg base (L2N.CX P w) 14 (He.ga K "law") fd ["script"] sp := by
  have nd := (sc_law).nd
  refine F.ok sc_law len (fun cdv A outer s H vs Q E hr h => ⟨t_law K sp__law_jar sp__law_forms sp__law_bent sp__law_thing sp__law_strange sp__law_singles sp__law_others sp__law_asked, ?_, rd vs H Q E h⟩)
  refine PSs.nox ?_
  exact (pss_cons (ps_set (i := 1) nd rfl (by first | exact Or.inl rfl | exact Or.inr rfl) (pe_callU h__law_jar hr (by decide) (by rfl) passN (pa_cons (pv 0) pa_nil)))
      (pss_cons (ps_for PassesOwn.never rfl (pi_range1 (by rfl) G.b_range (pa_cons pe_int pa_nil)) (pg_name (i := 2) nd rfl (by first | exact Or.inl rfl | exact Or.inr rfl) (by first | exact Or.inl rfl | exact Or.inr rfl)) (pss_one (ps_if ((pw_or (pt_not (pt_val (pe_callU h__law_forms hr (by decide) (by rfl) passN (pa_cons (pv 1) pa_nil)))) (pw_or (pt_not (pt_val (pe_callU h__law_bent hr (by decide) (by rfl) passN (pa_cons (pv 1) pa_nil)))) (pw_or1 (pt_not (pt_val (pe_callU h__law_bent hr (by decide) (by rfl) passN (pa_cons (pv 1) pa_nil)))))))).pt (pss_one (ps_ret pe_bl)) pss_nil)))
      (pss_cons (ps_set (i := 3) nd rfl (by first | exact Or.inl rfl | exact Or.inr rfl) (pe_callU h__law_thing hr (by decide) (by rfl) passN (pa_cons (pv 1) pa_nil)))
      (pss_cons (ps_set (i := 4) nd rfl (by first | exact Or.inl rfl | exact Or.inr rfl) (pe_callU h__law_thing hr (by decide) (by rfl) passN (pa_cons (pv 1) pa_nil)))
      (pss_one (ps_ret (pe_and (pe_callU h__law_strange hr (by decide) (by rfl) passN (pa_cons (pv 1) pa_nil)) (pe_and (pe_callU h__law_singles hr (by decide) (by rfl) passN (pa_cons (pv 3) (pa_cons (pv 4) pa_nil))) (pe_and (pe_callU h__law_others hr (by decide) (by rfl) passN (pa_cons (pv 4) (pa_cons (pv 3) pa_nil))) (pe_and (pe_callU h__law_asked hr (by decide) (by rfl) passN (pa_cons pe_int (pa_cons (pe_tup (pa_cons pe_int (pa_cons pe_int pa_nil))) pa_nil))) (pe_one (pe_callU h__law_asked hr (by decide) (by rfl) passN (pa_cons pe_str (pa_cons (pe_tup (pa_cons pe_int (pa_cons pe_int pa_nil))) pa_nil))))))))))))))
theorem init_BadNumber (O : LE.Own K (He.ga K "BadNumber")) (no0 : PySem.W.findIn K (.ref (He.ga K "BadNumber")) "at" = some none) {fd : FuncData} (F : FunD K "__init__" "BadNumber.__init__" (defArgs s_BadNumber__init) (defBody s_BadNumber__init) (defScope s_BadNumber__init) [] [] (He.ma K (He.ga K "BadNumber") "__init__") fd) :
    FnOk P w K mg base (L2N.CX P w) 1 (He.ma K (He.ga K "BadNumber") "__init__") fd ["self", "at"] (spI (He.ga K "BadNumber") ["at"]) ∧ Binds K fd ["self", "at"] [] :=
  ⟨ok_init1 F ⟨rfl, rfl, rfl, by decide +kernel, rfl, by decide +kernel, by decide +kernel⟩ O no0 rfl rfl rfl rfl (fun _ _ => rfl), F.bindsN fun _ _ _ _ _ _ us hl => match us, hl with | [_, _], _ => rfl⟩
theorem init_TooMany (O : LE.Own K (He.ga K "TooMany")) (no0 : PySem.W.findIn K (.ref (He.ga K "TooMany")) "what" = some none) (no1 : PySem.W.findIn K (.ref (He.ga K "TooMany")) "count" = some none) {fd : FuncData} (F : FunD K "__init__" "TooMany.__init__" (defArgs s_TooMany__init) (defBody s_TooMany__init) (defScope s_TooMany__init) [] [] (He.ma K (He.ga K "TooMany") "__init__") fd) :
    FnOk P w K mg base (L2N.CX P w) 1 (He.ma K (He.ga K "TooMany") "__init__") fd ["self", "what", "count"] (spI (He.ga K "TooMany") ["what", "count"]) ∧ Binds K fd ["self", "what", "count"] [] :=
  ⟨ok_init2 F ⟨rfl, rfl, rfl, by decide +kernel, rfl, by decide +kernel, by decide +kernel⟩ O no0 no1 rfl rfl rfl rfl rfl rfl rfl (fun _ _ => rfl) (fun _ _ => rfl), F.bindsN fun _ _ _ _ _ _ us hl => match us, hl with | [_, _, _], _ => rfl⟩
theorem hc_BadNumber (G : Glob K mg) (A : All K) {fd : FuncData} (F : FunD K "__init__" "BadNumber.__init__" (defArgs s_BadNumber__init) (defBody s_BadNumber__init) (defScope s_BadNumber__init) [] [] (He.ma K (He.ga K "BadNumber") "__init__") fd) : LW.HasC P w K mg base "BadNumber" ["at"] ["at"] (fun zs => zs) (fun zs => zs) := by
  have O := A.own (rows_at 0 ("BadNumber", true, .v))
  have no0 := A.no (rows_at 0 ("BadNumber", true, .v)) (f := "at") (by decide +kernel)
  refine ⟨G.g_BadNumber, O, fd, LW.init1 F ⟨rfl, rfl, rfl, by decide +kernel, rfl, by decide +kernel, by decide +kernel⟩ O no0 rfl rfl rfl rfl (fun _ _ => rfl), F.bindsN fun _ _ _ _ _ _ us hl => match us, hl with | [_, _], _ => rfl, ?_⟩
  exact kbn1_of (gW := (fun zs => zs)) (gV := (fun zs => zs)) F (fun _ _ _ _ _ _ _ ws h => match ws, h with | [_], _ => rfl) (fun r => r)
theorem hc_BadSum (G : Glob K mg) (A : All K) {fd : FuncData} (F : FunD K "__init__" "BadSum.__init__" (defArgs s_BadSum__init) (defBody s_BadSum__init) (defScope s_BadSum__init) [] [] (He.ma K (He.ga K "BadSum") "__init__") fd) : LW.HasC P w K mg base "BadSum" ["at"] ["at"] (fun zs => zs) (fun zs => zs) := by
  have O := A.own (rows_at 1 ("BadSum", true, .v))
  have no0 := A.no (rows_at 1 ("BadSum", true, .v)) (f := "at") (by decide +kernel)
  refine ⟨G.g_BadSum, O, fd, LW.init1 F ⟨rfl, rfl, rfl, by decide +kernel, rfl, by decide +kernel, by decide +kernel⟩ O no0 rfl rfl rfl rfl (fun _ _ => rfl), F.bindsN fun _ _ _ _ _ _ us hl => match us, hl with | [_, _], _ => rfl, ?_⟩
  exact kbn1_of (gW := (fun zs => zs)) (gV := (fun zs => zs)) F (fun _ _ _ _ _ _ _ ws h => match ws, h with | [_], _ => rfl) (fun r => r)
theorem hc_BadQuotient (G : Glob K mg) (A : All K) {fd : FuncData} (F : FunD K "__init__" "BadQuotient.__init__" (defArgs s_BadQuotient__init) (defBody s_BadQuotient__init) (defScope s_BadQuotient__init) [] [] (He.ma K (He.ga K "BadQuotient") "__init__") fd) : LW.HasC P w K mg base "BadQuotient" ["at"] ["at"] (fun zs => zs) (fun zs => zs) := by
  have O := A.own (rows_at 2 ("BadQuotient", true, .v))
  have no0 := A.no (rows_at 2 ("BadQuotient", true, .v)) (f := "at") (by decide +kernel)
  refine ⟨G.g_BadQuotient, O, fd, LW.init1 F ⟨rfl, rfl, rfl, by decide +kernel, rfl, by decide +kernel, by decide +kernel⟩ O no0 rfl rfl rfl rfl (fun _ _ => rfl), F.bindsN fun _ _ _ _ _ _ us hl => match us, hl with | [_, _], _ => rfl, ?_⟩
  exact kbn1_of (gW := (fun zs => zs)) (gV := (fun zs => zs)) F (fun _ _ _ _ _ _ _ ws h => match ws, h with | [_], _ => rfl) (fun r => r)
theorem hc_BadLandscape (G : Glob K mg) (A : All K) {fd : FuncData} (F : FunD K "__init__" "BadLandscape.__init__" (defArgs s_BadLandscape__init) (defBody s_BadLandscape__init) (defScope s_BadLandscape__init) [] [] (He.ma K (He.ga K "BadLandscape") "__init__") fd) : LW.HasC P w K mg base "BadLandscape" ["at"] ["at"] (fun zs => zs) (fun zs => zs) := by
  have O := A.own (rows_at 3 ("BadLandscape", true, .v))
  have no0 := A.no (rows_at 3 ("BadLandscape", true, .v)) (f := "at") (by decide +kernel)
  refine ⟨G.g_BadLandscape, O, fd, LW.init1 F ⟨rfl, rfl, rfl, by decide +kernel, rfl, by decide +kernel, by decide +kernel⟩ O no0 rfl rfl rfl rfl (fun _ _ => rfl), F.bindsN fun _ _ _ _ _ _ us hl => match us, hl with | [_, _], _ => rfl, ?_⟩
  exact kbn1_of (gW := (fun zs => zs)) (gV := (fun zs => zs)) F (fun _ _ _ _ _ _ _ ws h => match ws, h with | [_], _ => rfl) (fun r => r)
theorem hc_BadWell (G : Glob K mg) (A : All K) {fd : FuncData} (F : FunD K "__init__" "BadWell.__init__" (defArgs s_BadWell__init) (defBody s_BadWell__init) (defScope s_BadWell__init) [] [] (He.ma K (He.ga K "BadWell") "__init__") fd) : LW.HasC P w K mg base "BadWell" ["at"] ["at"] (fun zs => zs) (fun zs => zs) := by
  have O := A.own (rows_at 4 ("BadWell", true, .v))
  have no0 := A.no (rows_at 4 ("BadWell", true, .v)) (f := "at") (by decide +kernel)
  refine ⟨G.g_BadWell, O, fd, LW.init1 F ⟨rfl, rfl, rfl, by decide +kernel, rfl, by decide +kernel, by decide +kernel⟩ O no0 rfl rfl rfl rfl (fun _ _ => rfl), F.bindsN fun _ _ _ _ _ _ us hl => match us, hl with | [_, _], _ => rfl, ?_⟩
  exact kbn1_of (gW := (fun zs => zs)) (gV := (fun zs => zs)) F (fun _ _ _ _ _ _ _ ws h => match ws, h with | [_], _ => rfl) (fun r => r)
theorem hc_BadWall (G : Glob K mg) (A : All K) {fd : FuncData} (F : FunD K "__init__" "BadWall.__init__" (defArgs s_BadWall__init) (defBody s_BadWall__init) (defScope s_BadWall__init) [] [] (He.ma K (He.ga K "BadWall") "__init__") fd) : LW.HasC P w K mg base "BadWall" ["at"] ["at"] (fun zs => zs) (fun zs => zs) := by
  have O := A.own (rows_at 5 ("BadWall", true, .v))
  have no0 := A.no (rows_at 5 ("BadWall", true, .v)) (f := "at") (by decide +kernel)
  refine ⟨G.g_BadWall, O, fd, LW.init1 F ⟨rfl, rfl, rfl, by decide +kernel, rfl, by decide +kernel, by decide +kernel⟩ O no0 rfl rfl rfl rfl (fun _ _ => rfl), F.bindsN fun _ _ _ _ _ _ us hl => match us, hl with | [_, _], _ => rfl, ?_⟩
  exact kbn1_of (gW := (fun zs => zs)) (gV := (fun zs => zs)) F (fun _ _ _ _ _ _ _ ws h => match ws, h with | [_], _ => rfl) (fun r => r)
theorem hc_BadShape (G : Glob K mg) (A : All K) {fd : FuncData} (F : FunD K "__init__" "BadShape.__init__" (defArgs s_BadShape__init) (defBody s_BadShape__init) (defScope s_BadShape__init) [] [] (He.ma K (He.ga K "BadShape") "__init__") fd) : LW.HasC P w K mg base "BadShape" ["at"] ["at"] (fun zs => zs) (fun zs => zs) := by
  have O := A.own (rows_at 6 ("BadShape", true, .v))
  have no0 := A.no (rows_at 6 ("BadShape", true, .v)) (f := "at") (by decide +kernel)
  refine ⟨G.g_BadShape, O, fd, LW.init1 F ⟨rfl, rfl, rfl, by decide +kernel, rfl, by decide +kernel, by decide +kernel⟩ O no0 rfl rfl rfl rfl (fun _ _ => rfl), F.bindsN fun _ _ _ _ _ _ us hl => match us, hl with | [_, _], _ => rfl, ?_⟩
  exact kbn1_of (gW := (fun zs => zs)) (gV := (fun zs => zs)) F (fun _ _ _ _ _ _ _ ws h => match ws, h with | [_], _ => rfl) (fun r => r)
theorem hc_BadRoll (G : Glob K mg) (A : All K) {fd : FuncData} (F : FunD K "__init__" "BadRoll.__init__" (defArgs s_BadRoll__init) (defBody s_BadRoll__init) (defScope s_BadRoll__init) [] [] (He.ma K (He.ga K "BadRoll") "__init__") fd) : LW.HasC P w K mg base "BadRoll" ["at"] ["at"] (fun zs => zs) (fun zs => zs) := by
  have O := A.own (rows_at 7 ("BadRoll", true, .v))
  have no0 := A.no (rows_at 7 ("BadRoll", true, .v)) (f := "at") (by decide +kernel)
  refine ⟨G.g_BadRoll, O, fd, LW.init1 F ⟨rfl, rfl, rfl, by decide +kernel, rfl, by decide +kernel, by decide +kernel⟩ O no0 rfl rfl rfl rfl (fun _ _ => rfl), F.bindsN fun _ _ _ _ _ _ us hl => match us, hl with | [_, _], _ => rfl, ?_⟩
  exact kbn1_of (gW := (fun zs => zs)) (gV := (fun zs => zs)) F (fun _ _ _ _ _ _ _ ws h => match ws, h with | [_], _ => rfl) (fun r => r)
theorem hc_BadOperator (G : Glob K mg) (A : All K) {fd : FuncData} (F : FunD K "__init__" "BadOperator.__init__" (defArgs s_BadOperator__init) (defBody s_BadOperator__init) (defScope s_BadOperator__init) [] [] (He.ma K (He.ga K "BadOperator") "__init__") fd) : LW.HasC P w K mg base "BadOperator" ["at"] ["at"] (fun zs => zs) (fun zs => zs) := by
  have O := A.own (rows_at 8 ("BadOperator", true, .v))
  have no0 := A.no (rows_at 8 ("BadOperator", true, .v)) (f := "at") (by decide +kernel)
  refine ⟨G.g_BadOperator, O, fd, LW.init1 F ⟨rfl, rfl, rfl, by decide +kernel, rfl, by decide +kernel, by decide +kernel⟩ O no0 rfl rfl rfl rfl (fun _ _ => rfl), F.bindsN fun _ _ _ _ _ _ us hl => match us, hl with | [_, _], _ => rfl, ?_⟩
  exact kbn1_of (gW := (fun zs => zs)) (gV := (fun zs => zs)) F (fun _ _ _ _ _ _ _ ws h => match ws, h with | [_], _ => rfl) (fun r => r)
theorem hc_BadSymbol (G : Glob K mg) (A : All K) {fd : FuncData} (F : FunD K "__init__" "BadSymbol.__init__" (defArgs s_BadSymbol__init) (defBody s_BadSymbol__init) (defScope s_BadSymbol__init) [] [] (He.ma K (He.ga K "BadSymbol") "__init__") fd) : LW.HasC P w K mg base "BadSymbol" ["at"] ["at"] (fun zs => zs) (fun zs => zs) := by
  have O := A.own (rows_at 9 ("BadSymbol", true, .v))
  have no0 := A.no (rows_at 9 ("BadSymbol", true, .v)) (f := "at") (by decide +kernel)
  refine ⟨G.g_BadSymbol, O, fd, LW.init1 F ⟨rfl, rfl, rfl, by decide +kernel, rfl, by decide +kernel, by decide +kernel⟩ O no0 rfl rfl rfl rfl (fun _ _ => rfl), F.bindsN fun _ _ _ _ _ _ us hl => match us, hl with | [_, _], _ => rfl, ?_⟩
  exact kbn1_of (gW := (fun zs => zs)) (gV := (fun zs => zs)) F (fun _ _ _ _ _ _ _ ws h => match ws, h with | [_], _ => rfl) (fun r => r)
theorem hc_BadStep (G : Glob K mg) (A : All K) {fd : FuncData} (F : FunD K "__init__" "BadStep.__init__" (defArgs s_BadStep__init) (defBody s_BadStep__init) (defScope s_BadStep__init) [] [] (He.ma K (He.ga K "BadStep") "__init__") fd) : LW.HasC P w K mg base "BadStep" ["at"] ["at"] (fun zs => zs) (fun zs => zs) := by
  have O := A.own (rows_at 10 ("BadStep", true, .v))
  have no0 := A.no (rows_at 10 ("BadStep", true, .v)) (f := "at") (by decide +kernel)
  refine ⟨G.g_BadStep, O, fd, LW.init1 F ⟨rfl, rfl, rfl, by decide +kernel, rfl, by decide +kernel, by decide +kernel⟩ O no0 rfl rfl rfl rfl (fun _ _ => rfl), F.bindsN fun _ _ _ _ _ _ us hl => match us, hl with | [_, _], _ => rfl, ?_⟩
  exact kbn1_of (gW := (fun zs => zs)) (gV := (fun zs => zs)) F (fun _ _ _ _ _ _ _ ws h => match ws, h with | [_], _ => rfl) (fun r => r)
theorem hc_BadPaper (G : Glob K mg) (A : All K) {fd : FuncData} (F : FunD K "__init__" "BadPaper.__init__" (defArgs s_BadPaper__init) (defBody s_BadPaper__init) (defScope s_BadPaper__init) [] [] (He.ma K (He.ga K "BadPaper") "__init__") fd) : LW.HasC P w K mg base "BadPaper" ["at"] ["at"] (fun zs => zs) (fun zs => zs) := by
  have O := A.own (rows_at 11 ("BadPaper", true, .v))
  have no0 := A.no (rows_at 11 ("BadPaper", true, .v)) (f := "at") (by decide +kernel)
  refine ⟨G.g_BadPaper, O, fd, LW.init1 F ⟨rfl, rfl, rfl, by decide +kernel, rfl, by decide +kernel, by decide +kernel⟩ O no0 rfl rfl rfl rfl (fun _ _ => rfl), F.bindsN fun _ _ _ _ _ _ us hl => match us, hl with | [_, _], _ => rfl, ?_⟩
  exact kbn1_of (gW := (fun zs => zs)) (gV := (fun zs => zs)) F (fun _ _ _ _ _ _ _ ws h => match ws, h with | [_], _ => rfl) (fun r => r)
theorem hc_BadName (G : Glob K mg) (A : All K) {fd : FuncData} (F : FunD K "__init__" "BadName.__init__" (defArgs s_BadName__init) (defBody s_BadName__init) (defScope s_BadName__init) [] [] (He.ma K (He.ga K "BadName") "__init__") fd) : LW.HasC P w K mg base "BadName" ["name"] ["name"] (fun zs => zs) (fun zs => zs) := by
  have O := A.own (rows_at 12 ("BadName", true, .v))
  have no0 := A.no (rows_at 12 ("BadName", true, .v)) (f := "name") (by decide +kernel)
  refine ⟨G.g_BadName, O, fd, LW.init1 F ⟨rfl, rfl, rfl, by decide +kernel, rfl, by decide +kernel, by decide +kernel⟩ O no0 rfl rfl rfl rfl (fun _ _ => rfl), F.bindsN fun _ _ _ _ _ _ us hl => match us, hl with | [_, _], _ => rfl, ?_⟩
  exact kbn1_of (gW := (fun zs => zs)) (gV := (fun zs => zs)) F (fun _ _ _ _ _ _ _ ws h => match ws, h with | [_], _ => rfl) (fun r => r)
theorem hc_BadScript (G : Glob K mg) (A : All K) {fd : FuncData} (F : FunD K "__init__" "BadScript.__init__" (defArgs s_BadScript__init) (defBody s_BadScript__init) (defScope s_BadScript__init) [] [] (He.ma K (He.ga K "BadScript") "__init__") fd) : LW.HasC P w K mg base "BadScript" ["line"] ["line"] (fun zs => zs) (fun zs => zs) := by
  have O := A.own (rows_at 13 ("BadScript", true, .v))
  have no0 := A.no (rows_at 13 ("BadScript", true, .v)) (f := "line") (by decide +kernel)
  refine ⟨G.g_BadScript, O, fd, LW.init1 F ⟨rfl, rfl, rfl, by decide +kernel, rfl, by decide +kernel, by decide +kernel⟩ O no0 rfl rfl rfl rfl (fun _ _ => rfl), F.bindsN fun _ _ _ _ _ _ us hl => match us, hl with | [_, _], _ => rfl, ?_⟩
  exact kbn1_of (gW := (fun zs => zs)) (gV := (fun zs => zs)) F (fun _ _ _ _ _ _ _ ws h => match ws, h with | [_], _ => rfl) (fun r => r)
theorem hc_Barred (G : Glob K mg) (A : All K) {fd : FuncData} (F : FunD K "__init__" "Barred.__init__" (defArgs s_Barred__init) (defBody s_Barred__init) (defScope s_Barred__init) [] [] (He.ma K (He.ga K "Barred") "__init__") fd) : LW.HasC P w K mg base "Barred" ["kind"] ["kind"] (fun zs => zs) (fun zs => zs) := by
  have O := A.own (rows_at 14 ("Barred", true, .v))
  have no0 := A.no (rows_at 14 ("Barred", true, .v)) (f := "kind") (by decide +kernel)
  refine ⟨G.g_Barred, O, fd, LW.init1 F ⟨rfl, rfl, rfl, by decide +kernel, rfl, by decide +kernel, by decide +kernel⟩ O no0 rfl rfl rfl rfl (fun _ _ => rfl), F.bindsN fun _ _ _ _ _ _ us hl => match us, hl with | [_, _], _ => rfl, ?_⟩
  exact kbn1_of (gW := (fun zs => zs)) (gV := (fun zs => zs)) F (fun _ _ _ _ _ _ _ ws h => match ws, h with | [_], _ => rfl) (fun r => r)
theorem hc_Unlike (G : Glob K mg) (A : All K) {fd : FuncData} (F : FunD K "__init__" "Unlike.__init__" (defArgs s_Unlike__init) (defBody s_Unlike__init) (defScope s_Unlike__init) [] [] (He.ma K (He.ga K "Unlike") "__init__") fd) : LW.HasC P w K mg base "Unlike" ["what"] ["what"] (fun zs => zs) (fun zs => zs) := by
  have O := A.own (rows_at 15 ("Unlike", true, .v))
  have no0 := A.no (rows_at 15 ("Unlike", true, .v)) (f := "what") (by decide +kernel)
  refine ⟨G.g_Unlike, O, fd, LW.init1 F ⟨rfl, rfl, rfl, by decide +kernel, rfl, by decide +kernel, by decide +kernel⟩ O no0 rfl rfl rfl rfl (fun _ _ => rfl), F.bindsN fun _ _ _ _ _ _ us hl => match us, hl with | [_, _], _ => rfl, ?_⟩
  exact kbn1_of (gW := (fun zs => zs)) (gV := (fun zs => zs)) F (fun _ _ _ _ _ _ _ ws h => match ws, h with | [_], _ => rfl) (fun r => r)
theorem hc_HasResidue (G : Glob K mg) (A : All K) {fd : FuncData} (F : FunD K "__init__" "HasResidue.__init__" (defArgs s_HasResidue__init) (defBody s_HasResidue__init) (defScope s_HasResidue__init) [] [] (He.ma K (He.ga K "HasResidue") "__init__") fd) : LW.HasC P w K mg base "HasResidue" ["wall"] ["wall"] (fun zs => zs) (fun zs => zs) := by
  have O := A.own (rows_at 16 ("HasResidue", true, .v))
  have no0 := A.no (rows_at 16 ("HasResidue", true, .v)) (f := "wall") (by decide +kernel)
  refine ⟨G.g_HasResidue, O, fd, LW.init1 F ⟨rfl, rfl, rfl, by decide +kernel, rfl, by decide +kernel, by decide +kernel⟩ O no0 rfl rfl rfl rfl (fun _ _ => rfl), F.bindsN fun _ _ _ _ _ _ us hl => match us, hl with | [_, _], _ => rfl, ?_⟩
  exact kbn1_of (gW := (fun zs => zs)) (gV := (fun zs => zs)) F (fun _ _ _ _ _ _ _ ws h => match ws, h with | [_], _ => rfl) (fun r => r)
theorem hc_NotKept (G : Glob K mg) (A : All K) {fd : FuncData} (F : FunD K "__init__" "NotKept.__init__" (defArgs s_NotKept__init) (defBody s_NotKept__init) (defScope s_NotKept__init) [] [] (He.ma K (He.ga K "NotKept") "__init__") fd) : LW.HasC P w K mg base "NotKept" ["wall"] ["wall"] (fun zs => zs) (fun zs => zs) := by
  have O := A.own (rows_at 17 ("NotKept", true, .v))
  have no0 := A.no (rows_at 17 ("NotKept", true, .v)) (f := "wall") (by decide +kernel)
  refine ⟨G.g_NotKept, O, fd, LW.init1 F ⟨rfl, rfl, rfl, by decide +kernel, rfl, by decide +kernel, by decide +kernel⟩ O no0 rfl rfl rfl rfl (fun _ _ => rfl), F.bindsN fun _ _ _ _ _ _ us hl => match us, hl with | [_, _], _ => rfl, ?_⟩
  exact kbn1_of (gW := (fun zs => zs)) (gV := (fun zs => zs)) F (fun _ _ _ _ _ _ _ ws h => match ws, h with | [_], _ => rfl) (fun r => r)
theorem hc_TooMany (G : Glob K mg) (A : All K) {fd : FuncData} (F : FunD K "__init__" "TooMany.__init__" (defArgs s_TooMany__init) (defBody s_TooMany__init) (defScope s_TooMany__init) [] [] (He.ma K (He.ga K "TooMany") "__init__") fd) : LW.HasC P w K mg base "TooMany" ["what", "count"] ["count", "what"] List.reverse List.reverse := by
  have O := A.own (rows_at 18 ("TooMany", true, .v))
  have no0 := A.no (rows_at 18 ("TooMany", true, .v)) (f := "what") (by decide +kernel)
  have no1 := A.no (rows_at 18 ("TooMany", true, .v)) (f := "count") (by decide +kernel)
  refine ⟨G.g_TooMany, O, fd, LW.init2 F ⟨rfl, rfl, rfl, by decide +kernel, rfl, by decide +kernel, by decide +kernel⟩ O no0 no1 rfl rfl rfl rfl rfl rfl rfl (fun _ _ => rfl) (fun _ _ => rfl), F.bindsN fun _ _ _ _ _ _ us hl => match us, hl with | [_, _, _], _ => rfl, ?_⟩
  exact kbn1_of (gW := List.reverse) (gV := List.reverse) F (fun _ _ _ _ _ _ _ ws h => match ws, h with | [_, _], _ => rfl) (fun r => r.reverse)
theorem hc_NoSuch (G : Glob K mg) (A : All K) {fd : FuncData} (F : FunD K "__init__" "NoSuch.__init__" (defArgs s_NoSuch__init) (defBody s_NoSuch__init) (defScope s_NoSuch__init) [] [] (He.ma K (He.ga K "NoSuch") "__init__") fd) : LW.HasC P w K mg base "NoSuch" ["name"] ["name"] (fun zs => zs) (fun zs => zs) := by
  have O := A.own (rows_at 19 ("NoSuch", false, .l))
  have no0 := A.no (rows_at 19 ("NoSuch", false, .l)) (f := "name") (by decide +kernel)
  refine ⟨G.g_NoSuch, O, fd, LW.init1 F ⟨rfl, rfl, rfl, by decide +kernel, rfl, by decide +kernel, by decide +kernel⟩ O no0 rfl rfl rfl rfl (fun _ _ => rfl), F.bindsN fun _ _ _ _ _ _ us hl => match us, hl with | [_, _], _ => rfl, ?_⟩
  exact kbn1_of (gW := (fun zs => zs)) (gV := (fun zs => zs)) F (fun _ _ _ _ _ _ _ ws h => match ws, h with | [_], _ => rfl) (fun r => r)
theorem hc_Ended (G : Glob K mg) (A : All K) {fd : FuncData} (F : FunD K "__init__" "Ended.__init__" (defArgs s_Ended__init) (defBody s_Ended__init) (defScope s_Ended__init) [] [] (He.ma K (He.ga K "Ended") "__init__") fd) : LW.HasC P w K mg base "Ended" ["what"] ["what"] (fun zs => zs) (fun zs => zs) := by
  have O := A.own (rows_at 20 ("Ended", false, .r))
  have no0 := A.no (rows_at 20 ("Ended", false, .r)) (f := "what") (by decide +kernel)
  refine ⟨G.g_Ended, O, fd, LW.init1 F ⟨rfl, rfl, rfl, by decide +kernel, rfl, by decide +kernel, by decide +kernel⟩ O no0 rfl rfl rfl rfl (fun _ _ => rfl), F.bindsN fun _ _ _ _ _ _ us hl => match us, hl with | [_, _], _ => rfl, ?_⟩
  exact kbn1_of (gW := (fun zs => zs)) (gV := (fun zs => zs)) F (fun _ _ _ _ _ _ _ ws h => match ws, h with | [_], _ => rfl) (fun r => r)
theorem like_up (G : Glob K mg) {fd : FuncData} (F : FunD K "_law_like" "_law_like" (defArgs s__law_like) (defBody s__law_like) (defScope s__law_like) [] [] (He.ga K "_law_like") fd) : ∀ n, Has P w K mg base "_law_like" (n + 1) ["told", "due"] (spLikeN K (TT K) n)
  | 0 => ⟨G.g__law_like, F.kp, fd, F.ok sc__law_like (fun _ _ _ _ z => z.elim) (fun _ _ _ _ _ _ _ _ _ z => z.elim), F.bindsN fun _ _ _ _ _ _ us hl => match us, hl with | [_, _], _ => rfl⟩
  | n + 1 => fn__law_like G (lv := n + 1) (by omega) (like_up G F n) F (fun vs H Q E h => by obtain ⟨_, _, _, rfl, _⟩ := h; rfl) (rd_law_like n)
theorem chain (G : Glob K mg) (c : He.SaysD fa fn K) (hex : ex K = true) (TB : TabB base mg (He.codeOf K ("_law_asked", none)) (P1 K)) {fd : FuncData} (F : FunD K "law" "law" (defArgs s_law) (defBody s_law) (defScope s_law) [] [] (He.ga K "law") fd) :
    FnOk P w K mg base (L2N.CX P w) 14 (He.ga K "law") fd ["script"] (spLaw K) := by
  obtain ⟨A, X, TM, _⟩ := exs_of hex
  have XV := A.exv
  obtain ⟨fd_ask_text, F_ask_text⟩ := c.def_ 0 (d := d_ask_text) rfl
  obtain ⟨fd_ask_digits, F_ask_digits⟩ := c.def_ 1 (d := d_ask_digits) rfl
  obtain ⟨fd_ten_to, F_ten_to⟩ := c.def_ 2 (d := d_ten_to) rfl
  obtain ⟨fd_digit_count, F_digit_count⟩ := c.def_ 3 (d := d_digit_count) rfl
  obtain ⟨fd_is_digits, F_is_digits⟩ := c.def_ 4 (d := d_is_digits) rfl
  obtain ⟨fd_whole_of, F_whole_of⟩ := c.def_ 5 (d := d_whole_of) rfl
  obtain ⟨fd_is_whole, F_is_whole⟩ := c.def_ 6 (d := d_is_whole) rfl
  obtain ⟨fd_pair_of, F_pair_of⟩ := c.def_ 7 (d := d_pair_of) rfl
  obtain ⟨fd_text_of, F_text_of⟩ := c.def_ 8 (d := d_text_of) rfl
  obtain ⟨fd_text_parts, F_text_parts⟩ := c.def_ 9 (d := d_text_parts) rfl
  obtain ⟨fd_number_parts, F_number_parts⟩ := c.def_ 10 (d := d_number_parts) rfl
  obtain ⟨fd_most_of_parts, F_most_of_parts⟩ := c.def_ 11 (d := d_most_of_parts) rfl
  obtain ⟨fd_read_number, F_read_number⟩ := c.def_ 12 (d := d_read_number) rfl
  obtain ⟨fd_number_text, F_number_text⟩ := c.def_ 13 (d := d_number_text) rfl
  obtain ⟨fd__law_jar, F__law_jar⟩ := c.def_ 14 (d := d__law_jar) rfl
  obtain ⟨fd__law_draw, F__law_draw⟩ := c.def_ 15 (d := d__law_draw) rfl
  obtain ⟨fd__law_pick, F__law_pick⟩ := c.def_ 16 (d := d__law_pick) rfl
  obtain ⟨fd__law_reach, F__law_reach⟩ := c.def_ 17 (d := d__law_reach) rfl
  obtain ⟨fd__law_like, F__law_like⟩ := c.def_ 18 (d := d__law_like) rfl
  obtain ⟨fd__law_classes, F__law_classes⟩ := c.def_ 19 (d := d__law_classes) rfl
  obtain ⟨fd__law_fields, F__law_fields⟩ := c.def_ 20 (d := d__law_fields) rfl
  obtain ⟨fd__law_parts_of, F__law_parts_of⟩ := c.def_ 21 (d := d__law_parts_of) rfl
  obtain ⟨fd__law_tried, F__law_tried⟩ := c.def_ 22 (d := d__law_tried) rfl
  obtain ⟨fd__law_refused, F__law_refused⟩ := c.def_ 23 (d := d__law_refused) rfl
  obtain ⟨fd__law_gcd, F__law_gcd⟩ := c.def_ 24 (d := d__law_gcd) rfl
  obtain ⟨fd__law_low, F__law_low⟩ := c.def_ 25 (d := d__law_low) rfl
  obtain ⟨fd__law_word, F__law_word⟩ := c.def_ 26 (d := d__law_word) rfl
  obtain ⟨fd__law_digits, F__law_digits⟩ := c.def_ 27 (d := d__law_digits) rfl
  obtain ⟨fd__law_reads, F__law_reads⟩ := c.def_ 28 (d := d__law_reads) rfl
  obtain ⟨fd__law_due, F__law_due⟩ := c.def_ 29 (d := d__law_due) rfl
  obtain ⟨fd__law_integer, F__law_integer⟩ := c.def_ 30 (d := d__law_integer) rfl
  obtain ⟨fd__law_asked, F__law_asked⟩ := c.def_ 31 (d := d__law_asked) rfl
  obtain ⟨fd__law_forms, F__law_forms⟩ := c.def_ 32 (d := d__law_forms) rfl
  obtain ⟨fd__law_bent, F__law_bent⟩ := c.def_ 33 (d := d__law_bent) rfl
  obtain ⟨fd__law_strange, F__law_strange⟩ := c.def_ 34 (d := d__law_strange) rfl
  obtain ⟨fd__law_thing, F__law_thing⟩ := c.def_ 35 (d := d__law_thing) rfl
  obtain ⟨fd__law_singles, F__law_singles⟩ := c.def_ 36 (d := d__law_singles) rfl
  obtain ⟨fd__law_others, F__law_others⟩ := c.def_ 37 (d := d__law_others) rfl
  obtain ⟨fd_BadNumber__init, F_BadNumber__init⟩ := c.def_ 39 (d := d_BadNumber__init) rfl
  obtain ⟨fd_BadSum__init, F_BadSum__init⟩ := c.def_ 40 (d := d_BadSum__init) rfl
  obtain ⟨fd_BadQuotient__init, F_BadQuotient__init⟩ := c.def_ 41 (d := d_BadQuotient__init) rfl
  obtain ⟨fd_BadLandscape__init, F_BadLandscape__init⟩ := c.def_ 42 (d := d_BadLandscape__init) rfl
  obtain ⟨fd_BadWell__init, F_BadWell__init⟩ := c.def_ 43 (d := d_BadWell__init) rfl
  obtain ⟨fd_BadWall__init, F_BadWall__init⟩ := c.def_ 44 (d := d_BadWall__init) rfl
  obtain ⟨fd_BadShape__init, F_BadShape__init⟩ := c.def_ 45 (d := d_BadShape__init) rfl
  obtain ⟨fd_BadRoll__init, F_BadRoll__init⟩ := c.def_ 46 (d := d_BadRoll__init) rfl
  obtain ⟨fd_BadOperator__init, F_BadOperator__init⟩ := c.def_ 47 (d := d_BadOperator__init) rfl
  obtain ⟨fd_BadSymbol__init, F_BadSymbol__init⟩ := c.def_ 48 (d := d_BadSymbol__init) rfl
  obtain ⟨fd_BadStep__init, F_BadStep__init⟩ := c.def_ 49 (d := d_BadStep__init) rfl
  obtain ⟨fd_BadPaper__init, F_BadPaper__init⟩ := c.def_ 50 (d := d_BadPaper__init) rfl
  obtain ⟨fd_BadName__init, F_BadName__init⟩ := c.def_ 51 (d := d_BadName__init) rfl
  obtain ⟨fd_BadScript__init, F_BadScript__init⟩ := c.def_ 52 (d := d_BadScript__init) rfl
  obtain ⟨fd_Barred__init, F_Barred__init⟩ := c.def_ 53 (d := d_Barred__init) rfl
  obtain ⟨fd_Unlike__init, F_Unlike__init⟩ := c.def_ 54 (d := d_Unlike__init) rfl
  obtain ⟨fd_HasResidue__init, F_HasResidue__init⟩ := c.def_ 55 (d := d_HasResidue__init) rfl
  obtain ⟨fd_NotKept__init, F_NotKept__init⟩ := c.def_ 56 (d := d_NotKept__init) rfl
  obtain ⟨fd_TooMany__init, F_TooMany__init⟩ := c.def_ 57 (d := d_TooMany__init) rfl
  obtain ⟨fd_NoSuch__init, F_NoSuch__init⟩ := c.def_ 58 (d := d_NoSuch__init) rfl
  obtain ⟨fd_Ended__init, F_Ended__init⟩ := c.def_ 59 (d := d_Ended__init) rfl
  have O_BadNumber : LE.Own K (He.ga K "BadNumber") := X.bn
  have O_TooMany : LE.Own K (He.ga K "TooMany") := X.tm
  obtain ⟨I_BadNumber, J_BadNumber⟩ := init_BadNumber (P := P) (w := w) (mg := mg) (base := base) O_BadNumber X.bnA F_BadNumber__init
  obtain ⟨I_TooMany, J_TooMany⟩ := init_TooMany (P := P) (w := w) (mg := mg) (base := base) O_TooMany X.tmW X.tmC F_TooMany__init
  have h_BadNumber := hc_BadNumber (P := P) (w := w) (base := base) G A F_BadNumber__init
  have h_BadSum := hc_BadSum (P := P) (w := w) (base := base) G A F_BadSum__init
  have h_BadQuotient := hc_BadQuotient (P := P) (w := w) (base := base) G A F_BadQuotient__init
  have h_BadLandscape := hc_BadLandscape (P := P) (w := w) (base := base) G A F_BadLandscape__init
  have h_BadWell := hc_BadWell (P := P) (w := w) (base := base) G A F_BadWell__init
  have h_BadWall := hc_BadWall (P := P) (w := w) (base := base) G A F_BadWall__init
  have h_BadShape := hc_BadShape (P := P) (w := w) (base := base) G A F_BadShape__init
  have h_BadRoll := hc_BadRoll (P := P) (w := w) (base := base) G A F_BadRoll__init
  have h_BadOperator := hc_BadOperator (P := P) (w := w) (base := base) G A F_BadOperator__init
  have h_BadSymbol := hc_BadSymbol (P := P) (w := w) (base := base) G A F_BadSymbol__init
  have h_BadStep := hc_BadStep (P := P) (w := w) (base := base) G A F_BadStep__init
  have h_BadPaper := hc_BadPaper (P := P) (w := w) (base := base) G A F_BadPaper__init
  have h_BadName := hc_BadName (P := P) (w := w) (base := base) G A F_BadName__init
  have h_BadScript := hc_BadScript (P := P) (w := w) (base := base) G A F_BadScript__init
  have h_Barred := hc_Barred (P := P) (w := w) (base := base) G A F_Barred__init
  have h_Unlike := hc_Unlike (P := P) (w := w) (base := base) G A F_Unlike__init
  have h_HasResidue := hc_HasResidue (P := P) (w := w) (base := base) G A F_HasResidue__init
  have h_NotKept := hc_NotKept (P := P) (w := w) (base := base) G A F_NotKept__init
  have h_TooMany := hc_TooMany (P := P) (w := w) (base := base) G A F_TooMany__init
  have h_NoSuch := hc_NoSuch (P := P) (w := w) (base := base) G A F_NoSuch__init
  have h_Ended := hc_Ended (P := P) (w := w) (base := base) G A F_Ended__init
  have h_ask_text : Has P w K mg base "ask_text" 3 ["count"] (spAskText K) := fn_ask_text G O_TooMany I_TooMany J_TooMany F_ask_text (fun vs H Q E h => by obtain ⟨_, rfl, _⟩ := h; rfl) rd_ask_text
  have h_ask_digits : Has P w K mg base "ask_digits" 3 ["count"] (spAskDigits K (TT K)) := fn_ask_digits G O_TooMany I_TooMany J_TooMany F_ask_digits (fun vs H Q E h => by obtain ⟨_, rfl, _⟩ := h; rfl) rd_ask_digits
  have h_ten_to : Has P w K mg base "ten_to" 1 ["count"] (spTenTo) := fn_ten_to G  F_ten_to (fun vs H Q E h => by obtain ⟨_, rfl, _⟩ := h; rfl) rd_ten_to
  have h_digit_count : Has P w K mg base "digit_count" 2 ["number"] (spDigits) := fn_digit_count G (Has_mono h_ten_to (by decide)) F_digit_count (fun vs H Q E h => by obtain ⟨_, rfl, _⟩ := h; rfl) rd_digit_count
  have h_is_digits : Has P w K mg base "is_digits" 1 ["text"] (spIsDigits) := fn_is_digits G  F_is_digits (fun vs H Q E h => by obtain ⟨_, rfl, _⟩ := h; rfl) rd_is_digits
  have h_whole_of : Has P w K mg base "whole_of" 1 ["text"] (spWholeOf) := fn_whole_of G  F_whole_of (fun vs H Q E h => by obtain ⟨_, _, rfl, _⟩ := h; rfl) rd_whole_of
  have h_is_whole : Has P w K mg base "is_whole" 1 ["thing"] (spIsWhole K) := fn_is_whole G  F_is_whole (fun vs H Q E h => by obtain ⟨_, rfl, _⟩ := h; rfl) rd_is_whole
  have h_pair_of : Has P w K mg base "pair_of" 1 ["top", "bottom"] (spPairOf K (TT K)) := fn_pair_of G  F_pair_of (fun vs H Q E h => by obtain ⟨_, _, rfl, _⟩ := h; rfl) rd_pair_of
  have h_text_of : Has P w K mg base "text_of" 1 ["top", "bottom"] (spTextOf) := fn_text_of G  F_text_of (fun vs H Q E h => by obtain ⟨_, _, rfl, _⟩ := h; rfl) rd_text_of
  have h_text_parts : Has P w K mg base "text_parts" 2 ["text"] (spTextParts K (TT K)) := fn_text_parts G (Has_mono h_is_digits (by decide)) (Has_mono h_whole_of (by decide)) F_text_parts (fun vs H Q E h => by obtain ⟨_, rfl, _⟩ := h; rfl) rd_text_parts
  have h_number_parts : Has P w K mg base "number_parts" 3 ["thing"] (spNumberParts K (TT K)) := fn_number_parts G (Has_mono h_is_whole (by decide)) (Has_mono h_text_parts (by decide)) F_number_parts (fun vs H Q E h => by obtain ⟨_, _, rfl, _⟩ := h; rfl) rd_number_parts
  have h_most_of_parts : Has P w K mg base "most_of_parts" 3 ["top", "bottom"] (spMost) := fn_most_of_parts G (Has_mono h_digit_count (by decide)) F_most_of_parts (fun vs H Q E h => by obtain ⟨_, _, rfl, _⟩ := h; rfl) rd_most_of_parts
  have h_read_number : Has P w K mg base "read_number" 4 ["thing"] (spRead K (TT K)) := fn_read_number G (Has_mono h_ask_text (by decide)) (Has_mono h_number_parts (by decide)) (Has_mono h_ask_digits (by decide)) (Has_mono h_most_of_parts (by decide)) (Has_mono h_pair_of (by decide)) O_BadNumber I_BadNumber J_BadNumber F_read_number (fun vs H Q E h => by obtain ⟨_, _, rfl, _⟩ := h; rfl) rd_read_number
  have k_read_number_thing : HasK0 P w K mg base "read_number" 4 ["thing"] ["thing"] (fun zs => zs) (fun zs => zs) (spRead K (TT K)) := ⟨G.g_read_number, F_read_number.kp, fd_read_number, fo_read_number G (Has_mono h_ask_text (by decide)) (Has_mono h_number_parts (by decide)) (Has_mono h_ask_digits (by decide)) (Has_mono h_most_of_parts (by decide)) (Has_mono h_pair_of (by decide)) O_BadNumber I_BadNumber J_BadNumber F_read_number (fun vs H Q E h => by obtain ⟨_, _, rfl, _⟩ := h; rfl) rd_read_number, kbn0_of (gW := (fun zs => zs)) (gV := (fun zs => zs)) F_read_number (fun _ _ _ _ _ _ ws h => match ws, h with | [_], _ => rfl) (fun r => r)⟩
  have h_number_text : Has P w K mg base "number_text" 5 ["thing"] (spNumText K (TT K)) := fn_number_text G (Has_mono h_read_number (by decide)) (Has_mono h_text_of (by decide)) F_number_text (fun vs H Q E h => by obtain ⟨_, _, rfl, _⟩ := h; rfl) rd_number_text
  have k_number_text_thing : HasK0 P w K mg base "number_text" 5 ["thing"] ["thing"] (fun zs => zs) (fun zs => zs) (spNumText K (TT K)) := ⟨G.g_number_text, F_number_text.kp, fd_number_text, fo_number_text G (Has_mono h_read_number (by decide)) (Has_mono h_text_of (by decide)) F_number_text (fun vs H Q E h => by obtain ⟨_, _, rfl, _⟩ := h; rfl) rd_number_text, kbn0_of (gW := (fun zs => zs)) (gV := (fun zs => zs)) F_number_text (fun _ _ _ _ _ _ ws h => match ws, h with | [_], _ => rfl) (fun r => r)⟩
  have hl__law_jar : Has P w K mg base "_law_jar" 1 ["script"] (spBagL K) := fn__law_jar G  F__law_jar (fun vs H Q E h => by obtain ⟨_, _, rfl, _⟩ := h; rfl) rd_law_jar
  have h__law_jar : Has P w K mg base "_law_jar" 1 ["script"] (spBag K (TT K)) := hl__law_jar.bag (fun vs H Q E h => by obtain ⟨_, _, rfl, _⟩ := h; rfl) bag_up
  have hl__law_draw : Has P w K mg base "_law_draw" 1 ["jar", "edge"] (spDrawL K) := fn__law_draw G  F__law_draw (fun vs H Q E h => by obtain ⟨_, _, _, _, _, _, rfl, _⟩ := h; rfl) rd_law_draw
  have h__law_draw : Has P w K mg base "_law_draw" 1 ["jar", "edge"] (spDraw K) := hl__law_draw.jar (fun vs H Q E h => by obtain ⟨_, _, rfl, _⟩ := h; rfl) draw_up
  have h__law_pick : Has P w K mg base "_law_pick" 2 ["jar", "menu"] (spPick K) := fn__law_pick G (Has_mono h__law_draw (by decide)) F__law_pick (fun vs H Q E h => by obtain ⟨_, _, _, rfl, _⟩ := h; rfl) rd_law_pick
  have h__law_reach : Has P w K mg base "_law_reach" 2 ["jar", "far"] (spReach K) := fn__law_reach G (Has_mono h__law_draw (by decide)) F__law_reach (fun vs H Q E h => by obtain ⟨_, _, rfl, _⟩ := h; rfl) rd_law_reach
  have h__law_like := like_up (P := P) (w := w) (base := base) G F__law_like 4
  have hE__law_classes : HasE P w K mg base "_law_classes" 1 ["e"] (spClasses K (TT K)) := fn__law_classes G  F__law_classes (fun a c d vs H Q E h => by obtain ⟨rfl, _⟩ := h; rfl) (fun a c d vs H Q E h => by obtain ⟨_, D, _, _, _, e, O, _⟩ := h; exact ⟨D, e, O⟩) (fun a D d => rd_law_classes a D d)
  have h__law_classes : Has P w K mg base "_law_classes" 1 ["e"] (spClassesV K (TT K)) := fn__law_classesV G  F__law_classes (fun vs H Q E h => by obtain ⟨_, _, _, _, rfl, _⟩ := h; rfl) rd_law_classesV
  have hE__law_fields : HasE P w K mg base "_law_fields" 1 ["tag", "e"] (spFields K (TT K)) := fn__law_fields G  F__law_fields (fun a c d vs H Q E h => by obtain ⟨_, _, _, _, _, rfl, _⟩ := h; rfl) (fun a c d vs H Q E h => by obtain ⟨D, _, _, _, _, _, e, O, _⟩ := h; exact ⟨D, e, O⟩) (fun a D d => rd_law_fields a D d)
  have h__law_fields : Has P w K mg base "_law_fields" 1 ["tag", "e"] (spFieldsV K (TT K)) := fn__law_fieldsV G  F__law_fields (fun vs H Q E h => by obtain ⟨_, _, _, _, _, rfl, _⟩ := h; rfl) rd_law_fieldsV
  have hE__law_parts_of : HasE P w K mg base "_law_parts_of" 2 ["e"] (spParts K (TT K)) := fn__law_parts_of G hE__law_classes hE__law_fields F__law_parts_of (fun a c d vs H Q E h => by obtain ⟨rfl, _⟩ := h; rfl) (fun a c d vs H Q E h => by obtain ⟨_, D, _, _, _, _, e, O, _⟩ := h; exact ⟨D, e, O⟩) (fun a D d => rd_law_parts_of a D d)
  have h__law_parts_of : Has P w K mg base "_law_parts_of" 2 ["e"] (spPartsV K (TT K)) := fn__law_parts_ofV G (Has_mono h__law_classes (by decide)) (Has_mono h__law_fields (by decide)) F__law_parts_of (fun vs H Q E h => by obtain ⟨_, _, _, _, _, rfl, _⟩ := h; rfl) rd_law_parts_ofV
  have h__law_tried := fn__law_tried (k := 8) (T := TT K) (P := P) (w := w) (mg := mg) (base := base) G (by decide) hE__law_parts_of F__law_tried
  have h__law_refused : Has P w K mg base "_law_refused" 10 ["call", "due"] (spRefused P w K mg base (TT K) 8) := fn__law_refused G (Has_mono h__law_like (by decide)) (Has_mono h__law_tried (by decide)) F__law_refused (fun vs H Q E h => by obtain ⟨_, _, _, _, _, rfl, _⟩ := h; rfl) rd_law_refused
  have h__law_gcd : Has P w K mg base "_law_gcd" 1 ["x", "y"] (spGcd) := fn__law_gcd G  F__law_gcd (fun vs H Q E h => by obtain ⟨_, _, rfl, _⟩ := h; rfl) rd_law_gcd
  have h__law_low : Has P w K mg base "_law_low" 2 ["x", "y"] (spPairOf K (TT K)) := fn__law_low G (Has_mono h__law_gcd (by decide)) F__law_low (fun vs H Q E h => by obtain ⟨_, _, rfl, _⟩ := h; rfl) rd_law_low
  have h__law_word : Has P w K mg base "_law_word" 1 ["u"] (spWord K) := fn__law_word G  F__law_word (fun vs H Q E h => by obtain ⟨_, _, _, rfl, _⟩ := h; rfl) rd_law_word
  have h__law_digits : Has P w K mg base "_law_digits" 1 ["word"] (spLawDigits (TT K)) := fn__law_digits G  F__law_digits (fun vs H Q E h => by obtain ⟨_, rfl, _⟩ := h; rfl) rd_law_digits
  have h__law_reads : Has P w K mg base "_law_reads" 2 ["word"] (spReads K (TT K)) := fn__law_reads G (Has_mono h__law_digits (by decide)) F__law_reads (fun vs H Q E h => by obtain ⟨_, rfl, _⟩ := h; rfl) rd_law_reads
  have h__law_due : Has P w K mg base "_law_due" 3 ["pair"] (spDue K (TT K)) := fn__law_due G (Has_mono h__law_low (by decide)) F__law_due (fun vs H Q E h => by obtain ⟨_, _, rfl, _⟩ := h; rfl) rd_law_due
  have h__law_integer : Has P w K mg base "_law_integer" 3 ["jar"] (spInteger K (TT K)) := fn__law_integer G (Has_mono h__law_draw (by decide)) (Has_mono h__law_pick (by decide)) F__law_integer (fun vs H Q E h => by obtain ⟨_, rfl, _⟩ := h; rfl) rd_law_integer
  have h__law_asked := fn__law_asked (P := P) (w := w) (base := base) G X h__law_due h__law_refused h_read_number h_number_text h__law_like h__law_word k_number_text_thing k_read_number_thing TB F__law_asked
  have h__law_forms : Has P w K mg base "_law_forms" 13 ["jar"] (spJar1 K) := fn__law_forms G (Has_mono h__law_integer (by decide)) (Has_mono h__law_pick (by decide)) (Has_mono h__law_draw (by decide)) (Has_mono h__law_asked (by decide)) F__law_forms (fun vs H Q E h => by obtain ⟨_, rfl, _⟩ := h; rfl) rd_law_forms
  have h__law_bent : Has P w K mg base "_law_bent" 13 ["jar"] (spJar1 K) := fn__law_bent G (Has_mono h__law_pick (by decide)) (Has_mono h__law_draw (by decide)) (Has_mono h__law_asked (by decide)) (Has_mono h__law_reads (by decide)) F__law_bent (fun vs H Q E h => by obtain ⟨_, rfl, _⟩ := h; rfl) rd_law_bent
  have h__law_strange : Has P w K mg base "_law_strange" 13 ["jar"] (spJar1 K) := fn__law_strange G (Has_mono h__law_reach (by decide)) (Has_mono h__law_pick (by decide)) (Has_mono h__law_asked (by decide)) F__law_strange (fun vs H Q E h => by obtain ⟨_, rfl, _⟩ := h; rfl) rd_law_strange
  have h__law_thing : Has P w K mg base "_law_thing" 3 ["jar"] (spThing K (TT K)) := fn__law_thing G (Has_mono h__law_pick (by decide)) F__law_thing (fun vs H Q E h => by obtain ⟨_, rfl, _⟩ := h; rfl) rd_law_thing
  have h__law_singles : Has P w K mg base "_law_singles" 6 ["u", "v"] (spUV K (TT K)) := fn__law_singles G (Has_mono h__law_like (by decide)) (Has_mono h__law_parts_of (by decide)) h_BadPaper h_BadStep h_BadSymbol h_BadOperator h_BadRoll h_BadShape h_BadWall h_BadWell h_BadLandscape h_BadQuotient h_BadSum h_BadNumber F__law_singles (fun vs H Q E h => by obtain ⟨_, _, _, _, rfl, _⟩ := h; rfl) (rd_law_singles XV)
  have h__law_others : Has P w K mg base "_law_others" 6 ["u", "v"] (spUV K (TT K)) := fn__law_others G (Has_mono h__law_like (by decide)) (Has_mono h__law_parts_of (by decide)) h_Ended h_NoSuch h_NotKept h_HasResidue h_Unlike h_Barred h_BadScript h_BadName h_TooMany F__law_others (fun vs H Q E h => by obtain ⟨_, _, _, _, rfl, _⟩ := h; rfl) (rd_law_others XV TM)
  exact fo_law G (Has_mono h__law_jar (by decide)) (Has_mono h__law_forms (by decide)) (Has_mono h__law_bent (by decide)) (Has_mono h__law_thing (by decide)) (Has_mono h__law_strange (by decide)) (Has_mono h__law_singles (by decide)) (Has_mono h__law_others (by decide)) (Has_mono h__law_asked (by decide)) F (fun vs H Q E h => by obtain ⟨_, _, rfl, _⟩ := h; rfl) rd_law
end
theorem tabs_of {K : PySem.W.Frag} {H : Hp} (h1 : H (P1 K) = some (.tbl #[])) : Tabs (TT K) H := by
  have e : ∀ (P : Addr) (q : Str), H P = some (.tbl #[]) → TabS H P q := fun P q h => ⟨#[], h, trivial, fun pos cv e => by cases e⟩
  intro p hp
  simp only [TT, List.mem_cons, List.not_mem_nil, or_false] at hp
  rw [hp]
  exact e _ _ h1
end K00
open PySem PySem.W PySem.Calls PyProof.Rows
theorem PySem.Challenge.cw_logless_k00_numbers_there_and_back_holds : PySem.Challenge.rw_logless_k00_numbers_there_and_back.Holds := by
  w_on; o_law
  refine HandSHeadRun.head_imp (r := OpenLaw.row PySem.Challenge.rw_logless_k00_numbers_there_and_back) (q := view (OpenLaw.row PySem.Challenge.rw_logless_k00_numbers_there_and_back).prog [0, 77]) (H := K00.hk) (ob := K00.ob) (M := 12000) (loose := K00.names) (d := HandSHeadRun.topDef (OpenLaw.row PySem.Challenge.rw_logless_k00_numbers_there_and_back).prog 77) (kwd := []) K00.ob_eq
    K00.run (by kernel_rfl) (by kernel_rfl) (by kernel_rfl) (by rfl) (by first | assumption | decide +kernel) (by decide +kernel) ⟨rfl, rfl, rfl, rfl, rfl, by decide +kernel⟩ ?hw ?hc
  case hw => w_witness2
  case hc =>
    refine LamX.walk_ofTsE (l := PySem.Challenge.rw_logless_k00_numbers_there_and_back) (n := 63) (k := 14) (x := "script") (CX := fun w => L2N.CX (PySem.Challenge.rw_logless_k00_numbers_there_and_back).prog w) rfl (by decide) (by kernel_rfl) ⟨rfl, by decide, by decide⟩ ?F ?X
    case X =>
      intro _ _ _ _ _ z
      obtain ⟨_, _, _, _, _, _, _, _, _, _, _, _, h⟩ := z
      exact h
    case F =>
    intro w mg fa h Y G hmg0
    obtain ⟨K, KX, c⟩ := Y
    have hmg : mg ("law" : PySem.Str) = some (.ref fa) := by
      have e : (HandSHeadRun.topDef (OpenLaw.row PySem.Challenge.rw_logless_k00_numbers_there_and_back).prog 77).name = ("law" : PySem.Str) := by kernel_rfl
      rw [← e]
      exact hmg0
    have cd := c.t.d
    have GC := (K00.exs_of c.more).2.2.2
    have GG := K00.glob_of KX G cd GC
    obtain ⟨fd, F⟩ := cd.def_ 38 (d := K00.d_law) rfl
    have e := hmg.symm.trans GG.g_law
    cases e
    refine ⟨K, KX, fd, K00.tf.map (He.cT K), K00.spLaw K, ?_, ?_, ?_, ?_, ?_, ?_⟩
    · intro p hp
      obtain ⟨q, hq, rfl⟩ := List.mem_map.mp hp
      exact c.empty q hq
    · intro p hp
      obtain ⟨q, hq, rfl⟩ := List.mem_map.mp hp
      exact c.out q hq
    · intro p hp
      obtain ⟨q, hq, rfl⟩ := List.mem_map.mp hp
      exact PySem.W.codeHd_of_K KX (c.hd q hq)
    · exact fun s v => (L2.FunD.bindsA (ps := ["script"]) F fun _ _ _ _ _ _ us hl => match us, hl with | [_], _ => rfl) s [v] rfl
    · exact fun H a ns hl hb hH hS => ⟨a, ns, rfl, hS, K00.tabs_of (hH _ (List.mem_cons_self ..)), fun _ _ => rfl⟩
    · intro base hK hN hT
      exact K00.chain (P := (PySem.Challenge.rw_logless_k00_numbers_there_and_back).prog) (K00.glob_of hK hN cd GC) cd c.more (hT _ (List.mem_cons_self ..)) F
