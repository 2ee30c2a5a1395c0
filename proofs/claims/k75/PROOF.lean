import PyProof.Rows.All
import Wide.All
import OpenK.AllK
import Wide.FinOn
import HandS.ForMost
import HandS.Evl
import HandS.TupAny
import HandS.IsInst
import HandS.Zip
import HandS.SortInts
import HandS.SetFor
import HandS.Exc
import HandS.WordsExc
import HandS.ExcInit
import KE.GoesMore
import HandS.Dict
import HandS.DictComp
import HandS.Codes
import HandS.Lambda
import KE.KExcSuper
import HandS.TryMany
import HandS.ExcField
import HandS.Deep
import HandS.RaiseMore
import HandS.EndTab
import HandS.EndOwn
import HandS.EndBits
import KE.KNestM
import PySem.Challenge.RW_chamberpaths_k75_whole_words_lowered
set_option Elab.async false
set_option linter.all false
set_option maxRecDepth 100000
set_option maxHeartbeats 2000000
/-! DL: a layer over HandS. Programs are read by a weakest-precondition calculus over plain data (PyData); the heap is hidden. -/
namespace DL
open PySem L2 Evl

/-! ### 1. what a value bears in a heap -/
section
variable (K : PySem.W.Frag) (cl : Str → Option Addr) (H : Hp)
/-- a key as data -/
def keyD : L2.Key → PyData
  | .inl i => .int i
  | .inr x => .str x
mutual
inductive Rp : V → PyData → Prop
  | non : Rp .non .none
  | bl (b : Bool) : Rp (.bl b) (.bool b)
  | int (i : Int) : Rp (.int i) (.int i)
  | str (x : Str) : Rp (.str x) (.str x)
  | lst {a : Addr} {xs : List V} {ds : List PyData} : H a = some (.lst xs) → RpL xs ds → Rp (.ref a) (.list ds)
  | tup {a : Addr} {xs : List V} {ds : List PyData} : SqT K H a xs → RpL xs ds → Rp (.ref a) (.tuple ds)
  | ins {a C dx : Addr} {c : Str} {fs : List (Str × V)} {kvs : List (PyData × PyData)} : cl c = some C → H a = some (.ins C dx fs) → RpF fs kvs → Rp (.ref a) (.dict ((.str c, .none) :: kvs))
  | dic {a : Addr} {ks : List (L2.Key × V)} {kvs : List (PyData × PyData)} : H a = some (.dK ks) → RpK ks kvs → Rp (.ref a) (.dict ((.none, .none) :: kvs))
inductive RpL : List V → List PyData → Prop
  | nil : RpL [] []
  | cons {v : V} {vs : List V} {d : PyData} {ds : List PyData} : Rp v d → RpL vs ds → RpL (v :: vs) (d :: ds)
inductive RpF : List (Str × V) → List (PyData × PyData) → Prop
  | nil : RpF [] []
  | cons {f : Str} {v : V} {d : PyData} {fs : List (Str × V)} {kvs : List (PyData × PyData)} : Rp v d → RpF fs kvs → RpF ((f, v) :: fs) ((.str f, d) :: kvs)
inductive RpK : List (L2.Key × V) → List (PyData × PyData) → Prop
  | nil : RpK [] []
  | cons {k : L2.Key} {v : V} {d : PyData} {ks : List (L2.Key × V)} {kvs : List (PyData × PyData)} : Rp v d → RpK ks kvs → RpK ((k, v) :: ks) ((keyD k, d) :: kvs)
end
end
section
variable {K : PySem.W.Frag} {cl : Str → Option Addr} {H H' : Hp}
mutual
theorem Rp.mono (e : Ex H H') : ∀ {v : V} {d : PyData}, Rp K cl H v d → Rp K cl H' v d
  | _, _, .non => .non
  | _, _, .bl b => .bl b
  | _, _, .int i => .int i
  | _, _, .str x => .str x
  | _, _, .lst h r => .lst (e _ _ h) (RpL.mono e r)
  | _, _, .tup h r => .tup (ex_t e h) (RpL.mono e r)
  | _, _, .ins hc h r => .ins hc (e _ _ h) (RpF.mono e r)
  | _, _, .dic h r => .dic (e _ _ h) (RpK.mono e r)
theorem RpL.mono (e : Ex H H') : ∀ {vs : List V} {ds : List PyData}, RpL K cl H vs ds → RpL K cl H' vs ds
  | _, _, .nil => .nil
  | _, _, .cons h r => .cons (Rp.mono e h) (RpL.mono e r)
theorem RpF.mono (e : Ex H H') : ∀ {fs : List (Str × V)} {kvs : List (PyData × PyData)}, RpF K cl H fs kvs → RpF K cl H' fs kvs
  | _, _, .nil => .nil
  | _, _, .cons h r => .cons (Rp.mono e h) (RpF.mono e r)
theorem RpK.mono (e : Ex H H') : ∀ {ks : List (L2.Key × V)} {kvs : List (PyData × PyData)}, RpK K cl H ks kvs → RpK K cl H' ks kvs
  | _, _, .nil => .nil
  | _, _, .cons h r => .cons (Rp.mono e h) (RpK.mono e r)
end
theorem RpL.length : ∀ {vs : List V} {ds : List PyData}, RpL K cl H vs ds → vs.length = ds.length
  | _, _, .nil => rfl
  | _, _, .cons _ r => congrArg (· + 1) (RpL.length r)
theorem RpL.get : ∀ {vs : List V} {ds : List PyData} {i : Nat} {d : PyData}, RpL K cl H vs ds → ds[i]? = some d → ∃ v, vs[i]? = some v ∧ Rp K cl H v d
  | _, _, _, _, .nil, e => by simp at e
  | _, _, 0, _, .cons h _, e => by
    simp at e
    subst e
    exact ⟨_, rfl, h⟩
  | _, _, i + 1, _, .cons _ r, e => by
    obtain ⟨v, h1, h2⟩ := RpL.get (i := i) r (by simpa using e)
    exact ⟨v, by simpa using h1, h2⟩
theorem RpL.getV : ∀ {vs : List V} {ds : List PyData} {i : Nat} {v : V}, RpL K cl H vs ds → vs[i]? = some v → ∃ d, ds[i]? = some d ∧ Rp K cl H v d
  | _, _, _, _, .nil, e => by simp at e
  | _, _, 0, _, .cons h _, e => by
    simp at e
    subst e
    exact ⟨_, rfl, h⟩
  | _, _, i + 1, _, .cons _ r, e => by
    obtain ⟨v, h1, h2⟩ := RpL.getV (i := i) r (by simpa using e)
    exact ⟨v, by simpa using h1, h2⟩
theorem RpL.append : ∀ {vs us : List V} {ds es : List PyData}, RpL K cl H vs ds → RpL K cl H us es → RpL K cl H (vs ++ us) (ds ++ es)
  | _, _, _, _, .nil, s => s
  | _, _, _, _, .cons h r, s => .cons h (RpL.append r s)
theorem RpL.take : ∀ {vs : List V} {ds : List PyData} (n : Nat), RpL K cl H vs ds → RpL K cl H (vs.take n) (ds.take n)
  | _, _, 0, _ => .nil
  | _, _, _ + 1, .nil => .nil
  | _, _, n + 1, .cons h r => .cons h (RpL.take n r)
theorem RpL.drop : ∀ {vs : List V} {ds : List PyData} (n : Nat), RpL K cl H vs ds → RpL K cl H (vs.drop n) (ds.drop n)
  | _, _, 0, r => r
  | _, _, _ + 1, .nil => .nil
  | _, _, n + 1, .cons _ r => RpL.drop n r
theorem RpL.rev : ∀ {vs : List V} {ds : List PyData}, RpL K cl H vs ds → RpL K cl H vs.reverse ds.reverse
  | _, _, .nil => .nil
  | _, _, .cons h r => by
    rw [List.reverse_cons, List.reverse_cons]
    exact RpL.append (RpL.rev r) (.cons h .nil)
theorem RpL.ints : ∀ {vs : List V} {xs : List Int}, RpL K cl H vs (xs.map .int) → vs = xs.map V.int
  | _, [], h => by
    cases h
    rfl
  | _, x :: xs, h => by
    cases h with
    | cons h r =>
      cases h
      rw [RpL.ints r, List.map_cons]
theorem RpL.bools : ∀ {vs : List V} {xs : List Bool}, RpL K cl H vs (xs.map .bool) → vs = xs.map V.bl
  | _, [], h => by
    cases h
    rfl
  | _, x :: xs, h => by
    cases h with
    | cons h r =>
      cases h
      rw [RpL.bools r, List.map_cons]
theorem rpl_ints : ∀ (xs : List Int), RpL K cl H (xs.map V.int) (xs.map .int)
  | [] => .nil
  | x :: xs => .cons (.int x) (rpl_ints xs)
theorem RpF.look : ∀ {fs : List (Str × V)} {kvs : List (PyData × PyData)} {f : Str} {i : Nat} {d : PyData}, RpF K cl H fs kvs → kvs[i]? = some (.str f, d) → (fs.map (·.1)).Nodup → ∃ v, fs.lookup f = some v ∧ Rp K cl H v d
  | _, _, _, _, _, .nil, e, _ => by simp at e
  | _, _, f, 0, _, .cons h _, e, _ => by
    simp at e
    obtain ⟨rfl, rfl⟩ := e
    exact ⟨_, by simp [List.lookup], h⟩
  | _, _, f, i + 1, _, .cons (f := g) (fs := fs) h r, e, nd => by
    rw [List.map_cons, List.nodup_cons] at nd
    obtain ⟨v, h1, h2⟩ := RpF.look (i := i) (f := f) r (by simpa using e) nd.2
    refine ⟨v, ?_, h2⟩
    have ne : (f == g) = false := by
      have hm : f ∈ fs.map (·.1) := by
        have key : ∀ {l : List (Str × V)}, l.lookup f = some v → f ∈ l.map (·.1) := by
          intro l
          induction l with
          | nil =>
            intro h
            cases h
          | cons p l ih =>
            intro h
            obtain ⟨g', z⟩ := p
            by_cases e : f = g'
            · rw [e]
              exact List.mem_cons_self ..
            · have e2 : (f == g') = false := by simpa using e
              simp only [List.lookup, e2] at h
              exact List.mem_cons_of_mem _ (ih h)
        exact key h1
      have : ¬ f = g := fun e => nd.1 (e ▸ hm)
      simpa using this
    simp only [List.lookup, ne]
    exact h1
/-- data without instances, at most n lists or tuples one in another: for == -/
def pl : Nat → PyData → Bool
  | _, .none => true
  | _, .bool _ => true
  | _, .int _ => true
  | _, .str x => PyData.strOk x
  | n + 1, .list xs => xs.all (pl n)
  | n + 1, .tuple xs => xs.all (pl n)
  | _, _ => false
theorem pl_shaped0 : ∀ (n : Nat) (d : PyData), pl n d = true → d.canLay0 = true ∧ d.depth ≤ n
  | _, .none, _ => ⟨rfl, Nat.zero_le _⟩
  | _, .bool _, _ => ⟨rfl, Nat.zero_le _⟩
  | _, .int _, _ => ⟨rfl, Nat.zero_le _⟩
  | 0, .str x, h => ⟨by simpa [pl, PyData.canLay0] using h, Nat.zero_le _⟩
  | n + 1, .str x, h => ⟨by simpa [pl, PyData.canLay0] using h, Nat.zero_le _⟩
  | 0, .list _, h => by simp [pl] at h
  | 0, .tuple _, h => by simp [pl] at h
  | 0, .dict _, h => by simp [pl] at h
  | _ + 1, .dict _, h => by simp [pl] at h
  | n + 1, .list xs, h => by
    have key : ∀ ys : List PyData, ys.all (pl n) = true → PyData.canLayAll0 ys = true ∧ PyData.depthAll ys ≤ n := by
      intro ys
      induction ys with
      | nil => exact fun _ => ⟨rfl, Nat.zero_le _⟩
      | cons y ys ih =>
        intro hy
        rw [List.all_cons, Bool.and_eq_true] at hy
        obtain ⟨a, b⟩ := pl_shaped0 n y hy.1
        obtain ⟨c, d⟩ := ih hy.2
        refine ⟨?_, ?_⟩
        · show (y.canLay0 && PyData.canLayAll0 ys) = true
          rw [a, c]
          rfl
        · show max y.depth (PyData.depthAll ys) ≤ n
          omega
    obtain ⟨a, b⟩ := key xs h
    exact ⟨a, Nat.succ_le_succ b⟩
  | n + 1, .tuple xs, h => by
    have key : ∀ ys : List PyData, ys.all (pl n) = true → PyData.canLayAll0 ys = true ∧ PyData.depthAll ys ≤ n := by
      intro ys
      induction ys with
      | nil => exact fun _ => ⟨rfl, Nat.zero_le _⟩
      | cons y ys ih =>
        intro hy
        rw [List.all_cons, Bool.and_eq_true] at hy
        obtain ⟨a, b⟩ := pl_shaped0 n y hy.1
        obtain ⟨c, d⟩ := ih hy.2
        refine ⟨?_, ?_⟩
        · show (y.canLay0 && PyData.canLayAll0 ys) = true
          rw [a, c]
          rfl
        · show max y.depth (PyData.depthAll ys) ≤ n
          omega
    obtain ⟨a, b⟩ := key xs h
    exact ⟨a, Nat.succ_le_succ b⟩
theorem pl_shaped {n : Nat} {d : PyData} (h : pl n d = true) (hn : n ≤ 64) : SeqAt.shaped d = true := by
  obtain ⟨a, b⟩ := pl_shaped0 n d h
  exact Bool.and_eq_true_iff.mpr ⟨a, decide_eq_true (Nat.le_trans b hn)⟩
mutual
def plain : PyData → Bool
  | .none => true
  | .bool _ => true
  | .int _ => true
  | .str _ => true
  | .list xs => plainL xs
  | .tuple xs => plainL xs
  | .dict _ => false
def plainL : List PyData → Bool
  | [] => true
  | x :: xs => plain x && plainL xs
end
theorem pl_plain : ∀ (n : Nat) (d : PyData), pl n d = true → plain d = true
  | _, .none, _ => rfl
  | _, .bool _, _ => rfl
  | _, .int _, _ => rfl
  | _, .str _, _ => rfl
  | 0, .list _, h => by simp [pl] at h
  | 0, .tuple _, h => by simp [pl] at h
  | 0, .dict _, h => by simp [pl] at h
  | _ + 1, .dict _, h => by simp [pl] at h
  | n + 1, .list xs, h => by
    have key : ∀ ys : List PyData, ys.all (pl n) = true → plainL ys = true := by
      intro ys
      induction ys with
      | nil => exact fun _ => rfl
      | cons y ys ih =>
        intro hy
        rw [List.all_cons, Bool.and_eq_true] at hy
        show (plain y && plainL ys) = true
        rw [pl_plain n y hy.1, ih hy.2]
        rfl
    exact key xs h
  | n + 1, .tuple xs, h => by
    have key : ∀ ys : List PyData, ys.all (pl n) = true → plainL ys = true := by
      intro ys
      induction ys with
      | nil => exact fun _ => rfl
      | cons y ys ih =>
        intro hy
        rw [List.all_cons, Bool.and_eq_true] at hy
        show (plain y && plainL ys) = true
        rw [pl_plain n y hy.1, ih hy.2]
        rfl
    exact key xs h
mutual
theorem Rp.dp : ∀ {v : V} {d : PyData}, Rp K cl H v d → plain d = true → Dp K H v d
  | _, _, .non, _ => .non
  | _, _, .bl b, _ => .bl b
  | _, _, .int i, _ => .int i
  | _, _, .str x, _ => .str x
  | _, _, .lst h r, p => .lst (sq_of h) (RpL.dp r p)
  | _, _, .tup h r, p => .tup h (RpL.dp r p)
  | _, _, .ins _ _ _, p => by simp [plain] at p
  | _, _, .dic _ _, p => by simp [plain] at p
theorem RpL.dp : ∀ {vs : List V} {ds : List PyData}, RpL K cl H vs ds → plainL ds = true → DpAll K H vs ds
  | _, _, .nil, _ => .nil
  | _, _, .cons h r, p => by
    have p' := (Bool.and_eq_true_iff.mp (show (plain _ && plainL _) = true from p))
    exact .cons (Rp.dp h p'.1) (RpL.dp r p'.2)
end
end

/-! ### 2. the data state and the frame -/
/-- a slot's content: none as yet; data; a list that is still changed (a cell); the pen; a value as it is -/
inductive W where
  | no | d (x : PyData) | m (k : Nat) | pen | v (x : V)
structure S where
  sl : List W
  ms : List (Option (List W))
  c : Nat
/-- an error: its class, its fields -/
structure Er where
  c : Str
  fs : List (PyData × PyData)
/-- what may change of the heap that a def is handed (the pen): where, and what is true of it -/
structure Pn where
  P : Addr
  X : Addr → Prop
  pen : Nat → Hp → Hp → Prop
  px : ∀ c G G' H H', Ex G G' → (∀ a o, H a = some o → (X a ∨ ∃ f, o = HO.ext f) → H' a = some o) → pen c G H → pen c G' H'
  pe : ∀ c G H a, pen c G H → X a → H a ≠ none
def Pn.none : Pn := ⟨0, fun _ => False, fun _ _ _ => True, fun _ _ _ _ _ _ _ _ => True.intro, fun _ _ _ _ _ h => h.elim⟩
/-- the frame of a def: the data heap and the heap at its entry -/
structure Fr where
  G0 : Hp
  H0 : Hp
  pn : Pn
  xg : ∀ a, pn.X a → G0 a = Option.none
  xh : ∀ a, pn.X a → H0 a ≠ Option.none
structure Cn where
  K : PySem.W.Frag
  cl : Str → Option Addr
  EX : XK
  Psi : Er → Prop
  pk : Pn → Prop := fun _ => True
def RpW (C : Cn) (P : Addr) (G : Hp) (ps : List Addr) : V → W → Prop
  | _, .no => False
  | v, .d x => Rp C.K C.cl G v x
  | v, .m k => ∃ p, ps[k]? = some p ∧ v = .ref p
  | v, .pen => v = .ref P
  | v, .v x => v = x
def Mono (p : Hp → Prop) : Prop := ∀ G G', Ex G G' → p G → p G'
structure AtG (C : Cn) (F : Fr) (G : Hp) (ps : List Addr) (H : Hp) (σ : L2.St) (s : S) (pd : List (V × W)) (wk : List (Hp → Prop)) : Prop where
  gh : Ex G H
  g0 : Ex F.G0 G
  h0 : ∀ a o, ¬ F.pn.X a → F.H0 a = some o → H a = some o
  fr : ∀ a, F.H0 a ≠ none → F.G0 a = none → G a = none
  len : σ.length = s.sl.length
  env : ∀ (i : Nat) (w : W), s.sl[i]? = some w → w ≠ .no → ∃ v, σ[i]? = some (some v) ∧ RpW C F.pn.P G ps v w
  psn : ps.Nodup
  psl : ps.length = s.ms.length
  ms : ∀ (k : Nat) (p : Addr) (ws : List W), ps[k]? = some p → s.ms[k]? = some (some ws) → F.H0 p = none ∧ G p = none ∧ ∃ vs, H p = some (.lst vs) ∧ Paired (RpW C F.pn.P G ps) vs ws
  pend : ∀ q ∈ pd, RpW C F.pn.P G ps q.1 q.2
  wkm : ∀ q ∈ wk, Mono q ∧ q G
  pn : F.pn.pen s.c G H
  psh : ∀ p ∈ ps, H p ≠ none ∧ F.H0 p = none
  pk : C.pk F.pn
def At (C : Cn) (F : Fr) (H : Hp) (σ : L2.St) (s : S) (pd : List (V × W)) (wk : List (Hp → Prop)) : Prop := ∃ G ps, AtG C F G ps H σ s pd wk
/-- from a data heap and a heap on: only new things -/
structure Nw (G H G2 H2 : Hp) : Prop where
  hh : Ex H H2
  gg : Ex G G2
  gh : Ex G2 H2
  fr : ∀ a, H a ≠ none → G a = none → G2 a = none
theorem Nw.refl {G H : Hp} (e : Ex G H) : Nw G H G H := ⟨Ex.refl H, Ex.refl G, e, fun _ _ h => h⟩
section
variable {C : Cn} {F : Fr} {G G' : Hp} {ps qs : List Addr} {H H' : Hp} {σ : L2.St} {s : S} {pd : List (V × W)} {wk : List (Hp → Prop)} {v : V} {w : W} {P : Addr}
theorem RpW.mono (e : Ex G G') (hp : ∀ (k : Nat) p, ps[k]? = some p → qs[k]? = some p) : ∀ {v : V} {w : W}, RpW C P G ps v w → RpW C P G' qs v w
  | _, .d _, h => Rp.mono e h
  | _, .m _, ⟨p, h1, h2⟩ => ⟨p, hp _ _ h1, h2⟩
  | _, .pen, h => h
  | _, .v _, h => h
theorem RpW.ne : ∀ {v : V} {w : W}, RpW C P G ps v w → w ≠ .no
  | _, .d _, _, e => nomatch e
  | _, .m _, _, e => nomatch e
  | _, .pen, _, e => nomatch e
  | _, .v _, _, e => nomatch e
theorem AtG.hne (a : AtG C F G ps H σ s pd wk) {b : Addr} (h : F.H0 b ≠ none) : H b ≠ none := by
  by_cases hx : F.pn.X b
  · exact F.pn.pe _ _ _ b a.pn hx
  · cases e : F.H0 b with
    | none => exact absurd e h
    | some o =>
      rw [a.h0 b o hx e]
      exact fun z => nomatch z
theorem AtG.x0 (a : AtG C F G ps H σ s pd wk) {b : Addr} (hx : F.pn.X b) (h0 : F.H0 b ≠ none) : G b = none := a.fr b h0 (F.xg b hx)
/-- only new things come: the state stays -/
theorem AtG.step (a : AtG C F G ps H σ s pd wk) (n : Nw G H G' H') : AtG C F G' ps H' σ s pd wk where
  gh := n.gh
  g0 := a.g0.trans n.gg
  h0 := fun b o hx e => n.hh b o (a.h0 b o hx e)
  fr := fun b h g => n.fr b (a.hne h) (a.fr b h g)
  len := a.len
  env := fun i w h1 h2 => by
    obtain ⟨v, e, r⟩ := a.env i w h1 h2
    exact ⟨v, e, r.mono n.gg fun _ _ h => h⟩
  psn := a.psn
  psl := a.psl
  ms := fun k p ws h1 h2 => by
    obtain ⟨e1, e2, vs, e3, r⟩ := a.ms k p ws h1 h2
    exact ⟨e1, n.fr p (by rw [e3]; exact fun z => nomatch z) e2, vs, n.hh p _ e3, L2.Paired.mapP r fun _ _ h => RpW.mono n.gg (fun _ _ h => h) h⟩
  pend := fun q hq => (a.pend q hq).mono n.gg fun _ _ h => h
  wkm := fun q hq => ⟨(a.wkm q hq).1, (a.wkm q hq).1 _ _ n.gg (a.wkm q hq).2⟩
  pn := F.pn.px _ _ _ _ _ n.gg (fun b o e _ => n.hh b o e) a.pn
  psh := fun p hp => by
    refine ⟨?_, (a.psh p hp).2⟩
    have h := (a.psh p hp).1
    cases e : H p with
    | none => exact absurd e h
    | some o =>
      rw [n.hh p o e]
      exact fun z => nomatch z
  pk := a.pk
theorem AtG.push (a : AtG C F G ps H σ s pd wk) (r : RpW C F.pn.P G ps v w) : AtG C F G ps H σ s ((v, w) :: pd) wk :=
  { a with pend := fun q hq => (List.mem_cons.mp hq).elim (fun e => e ▸ r) (fun hq => a.pend q hq) }
theorem AtG.sub {pd' : List (V × W)} (a : AtG C F G ps H σ s pd wk) (h : ∀ q ∈ pd', q ∈ pd) : AtG C F G ps H σ s pd' wk := { a with pend := fun q hq => a.pend q (h q hq) }
theorem AtG.pop {q : V × W} (a : AtG C F G ps H σ s (q :: pd) wk) : AtG C F G ps H σ s pd wk := a.sub fun _ h => List.mem_cons_of_mem _ h
theorem AtG.top (a : AtG C F G ps H σ s ((v, w) :: pd) wk) : RpW C F.pn.P G ps v w := a.pend (v, w) List.mem_cons_self
theorem AtG.walk {q : Hp → Prop} (a : AtG C F G ps H σ s pd wk) (m : Mono q) (h : q G) : AtG C F G ps H σ s pd (q :: wk) :=
  { a with wkm := fun r hr => (List.mem_cons.mp hr).elim (fun e => e ▸ ⟨m, h⟩) (fun hr => a.wkm r hr) }
theorem AtG.unwalk {q : Hp → Prop} (a : AtG C F G ps H σ s pd (q :: wk)) : AtG C F G ps H σ s pd wk := { a with wkm := fun r hr => a.wkm r (List.mem_cons_of_mem _ hr) }
/-- a new thing of the data -/
theorem nw_new {p : Addr} {o : HO} (e : Ex G H) (hp : H p = none) : Nw G H (upd G p o) (upd H p o) where
  hh := Ex.new hp
  gg := Ex.new (fresh_back e hp)
  gh := fun b u h => by
    by_cases hb : b = p
    · rw [hb, upd_same] at h ⊢
      exact h
    · rw [upd_ne hb] at h ⊢
      exact e b u h
  fr := fun b h g => by
    by_cases hb : b = p
    · rw [hb] at h
      exact absurd hp h
    · rw [upd_ne hb]
      exact g
/-- a new thing that is not of the data -/
theorem nw_raw {p : Addr} {o : HO} (e : Ex G H) (hp : H p = none) : Nw G H G (upd H p o) := ⟨Ex.new hp, Ex.refl G, e.trans (Ex.new hp), fun _ _ g => g⟩
theorem Nw.trans {G2 H2 G3 H3 : Hp} (a : Nw G H G2 H2) (b : Nw G2 H2 G3 H3) : Nw G H G3 H3 where
  hh := a.hh.trans b.hh
  gg := a.gg.trans b.gg
  gh := b.gh
  fr := fun x h g => b.fr x (by
    cases e : H x with
    | none => exact absurd e h
    | some o =>
      rw [a.hh x o e]
      exact fun z => nomatch z) (a.fr x h g)
theorem getElem?_app {α : Type} {l m : List α} {k : Nat} {x : α} (h : l[k]? = some x) : (l ++ m)[k]? = some x := by
  rw [List.getElem?_append_left (List.getElem?_eq_some_iff.mp h).1]
  exact h
/-- a new list that is still to be changed -/
theorem AtG.cell {p : Addr} {vs : List V} {ws : List W} (a : AtG C F G ps H σ s pd wk) (hp : H p = none) (r : Paired (RpW C F.pn.P G ps) vs ws) :
    AtG C F G (ps ++ [p]) (upd H p (.lst vs)) σ { s with ms := s.ms ++ [some ws] } ((.ref p, .m s.ms.length) :: pd) wk := by
  have n := nw_raw (o := .lst vs) a.gh hp
  have b := a.step n
  have npx : ¬ F.pn.X p := fun hx => F.pn.pe _ _ _ p a.pn hx hp
  have n0 : F.H0 p = none := by
    cases e : F.H0 p with
    | none => rfl
    | some o =>
      have := a.h0 p o npx e
      rw [hp] at this
      cases this
  have pn : p ∉ ps := fun hm => (a.psh p hm).1 hp
  have up : ∀ (k : Nat) q, ps[k]? = some q → (ps ++ [p])[k]? = some q := fun k q h => getElem?_app h
  refine ⟨b.gh, b.g0, b.h0, b.fr, b.len, fun i w h1 h2 => ?_, ?_, ?_, fun k q ws' h1 h2 => ?_, fun q hq => ?_, b.wkm, b.pn, fun q hq => ?_, b.pk⟩
  · obtain ⟨v, e, r⟩ := b.env i w h1 h2
    exact ⟨v, e, r.mono (Ex.refl G) up⟩
  · exact List.nodup_append.mpr ⟨a.psn, by simp, fun x hx y hy => by
      have : y = p := by simpa using hy
      intro e
      rw [e, this] at hx
      exact pn hx⟩
  · show (ps ++ [p]).length = (s.ms ++ [some ws]).length
    rw [List.length_append, List.length_append, a.psl]
    rfl
  · have h2 : (s.ms ++ [some ws])[k]? = some (some ws') := h2
    by_cases hk : k < ps.length
    · rw [List.getElem?_append_left hk] at h1
      rw [List.getElem?_append_left (by rw [← a.psl]; exact hk)] at h2
      obtain ⟨e1, e2, vs', e3, r'⟩ := b.ms k q ws' h1 h2
      exact ⟨e1, e2, vs', e3, L2.Paired.mapP r' fun _ _ h => h.mono (Ex.refl G) up⟩
    · rw [List.getElem?_append_right (by omega)] at h1
      rw [List.getElem?_append_right (by rw [← a.psl]; omega)] at h2
      have hk0 : k - ps.length = 0 := by
        have := (List.getElem?_eq_some_iff.mp h1).1
        simp at this
        omega
      rw [hk0] at h1
      rw [← a.psl, hk0] at h2
      simp at h1 h2
      subst h1 h2
      exact ⟨n0, fresh_back a.gh hp, vs, upd_same, L2.Paired.mapP r fun _ _ h => h.mono (Ex.refl G) up⟩
  · rcases List.mem_cons.mp hq with e | hq
    · rw [e]
      show ∃ q, (ps ++ [p])[s.ms.length]? = some q ∧ V.ref p = V.ref q
      refine ⟨p, ?_, rfl⟩
      rw [← a.psl, List.getElem?_append_right (Nat.le_refl _)]
      simp
    · exact (b.pend q hq).mono (Ex.refl G) up
  · rcases List.mem_append.mp hq with hq | hq
    · exact b.psh q hq
    · have : q = p := by simpa using hq
      rw [this]
      exact ⟨by rw [upd_same]; exact fun z => (nomatch z), n0⟩
/-- a list that is changed -/
theorem AtG.put {k : Nat} {p : Addr} {ws ws' : List W} {vs : List V} (a : AtG C F G ps H σ s pd wk) (hk : ps[k]? = some p) (hm : s.ms[k]? = some (some ws)) (r : Paired (RpW C F.pn.P G ps) vs ws') :
    AtG C F G ps (upd H p (.lst vs)) σ { s with ms := s.ms.set k (some ws') } pd wk := by
  obtain ⟨n0, ng, vs0, eh, r0⟩ := a.ms k p ws hk hm
  have hkl : k < s.ms.length := (List.getElem?_eq_some_iff.mp hm).1
  refine ⟨fun b o e => ?_, a.g0, fun b o hx e => ?_, a.fr, a.len, a.env, a.psn, ?_, fun j q ws2 h1 h2 => ?_, a.pend, a.wkm, ?_, fun q hq => ?_, a.pk⟩
  · rw [upd_ne (fun z => by rw [z, ng] at e; cases e)]
    exact a.gh b o e
  · rw [upd_ne (fun z => by rw [z, n0] at e; cases e)]
    exact a.h0 b o hx e
  · rw [List.length_set]
    exact a.psl
  · have h2 : (s.ms.set k (some ws'))[j]? = some (some ws2) := h2
    by_cases hj : k = j
    · subst hj
      rw [hk] at h1
      cases h1
      rw [List.getElem?_set_self hkl] at h2
      cases h2
      exact ⟨n0, ng, vs, upd_same, r⟩
    · rw [List.getElem?_set_ne hj] at h2
      obtain ⟨e1, e2, vs2, e3, r2⟩ := a.ms j q ws2 h1 h2
      refine ⟨e1, e2, vs2, ?_, r2⟩
      rw [upd_ne (fun z => ?_)]
      · exact e3
      · subst z
        have hjl := (List.getElem?_eq_some_iff.mp h1)
        have hkl' := (List.getElem?_eq_some_iff.mp hk)
        exact hj ((List.getElem?_inj hkl'.1 a.psn).mp (hk.trans h1.symm))
  · refine F.pn.px _ _ _ _ _ (Ex.refl G) (fun b o e hx => ?_) a.pn
    rw [upd_ne (fun z => ?_)]
    · exact e
    · rw [z] at hx e
      rcases hx with hx | ⟨f, hx⟩
      · exact F.xh p hx n0
      · rw [eh, hx] at e
        cases e
  · by_cases hq2 : q = p
    · rw [hq2, upd_same]
      exact ⟨fun z => (nomatch z), n0⟩
    · rw [upd_ne hq2]
      exact a.psh q hq
end
end DL
set_option Elab.async false
set_option linter.all false
set_option maxRecDepth 100000
set_option maxHeartbeats 2000000
namespace DL
open PySem L2 Evl

/-! ### 3. slots set, wiped; a list frozen -/
def W.is : W → Bool
  | .no => false
  | _ => true
def W.frz (k : Nat) (ds : List PyData) : W → W
  | .m j => if j = k then .d (.list ds) else .m j
  | w => w
def S.set (s : S) (i : Nat) (w : W) : S := { s with sl := s.sl.set i w }
def S.frz (s : S) (k : Nat) (ds : List PyData) : S := ⟨s.sl.map (W.frz k ds), (s.ms.set k none).map (Option.map (List.map (W.frz k ds))), s.c⟩
def S.put (s : S) (k : Nat) (ws : List W) : S := { s with ms := s.ms.set k (some ws) }
def S.new (s : S) (ws : List W) : S := { s with ms := s.ms ++ [some ws] }
def wipeW (l : List W) : List Nat → List W
  | [] => l
  | v :: vs => (wipeW l vs).set v .no
def S.wipe (s : S) (vs : List Nat) : S := { s with sl := wipeW s.sl vs }
section
variable {C : Cn} {F : Fr} {G G' : Hp} {ps qs : List Addr} {H H' : Hp} {σ : L2.St} {s : S} {pd : List (V × W)} {wk : List (Hp → Prop)} {v : V} {w : W} {P : Addr}
theorem AtG.set {i : Nat} (a : AtG C F G ps H σ s ((v, w) :: pd) wk) : AtG C F G ps H (σ.set i (some v)) (s.set i w) pd wk := by
  refine { a.pop with len := ?_, env := fun j u h1 h2 => ?_ }
  · show (σ.set i (some v)).length = (s.sl.set i w).length
    rw [List.length_set, List.length_set]
    exact a.len
  · have h1 : (s.sl.set i w)[j]? = some u := h1
    by_cases hj : i = j
    · subst hj
      have hl : i < s.sl.length := by
        have := (List.getElem?_eq_some_iff.mp h1).1
        rwa [List.length_set] at this
      rw [List.getElem?_set_self hl] at h1
      cases h1
      exact ⟨v, List.getElem?_set_self (by rw [a.len]; exact hl), a.top⟩
    · rw [List.getElem?_set_ne hj] at h1
      obtain ⟨v', e, r⟩ := a.env j u h1 h2
      exact ⟨v', by rw [List.getElem?_set_ne hj]; exact e, r⟩
theorem AtG.unset {i : Nat} (a : AtG C F G ps H σ s pd wk) : AtG C F G ps H (σ.set i none) (s.set i .no) pd wk := by
  refine { a with len := ?_, env := fun j u h1 h2 => ?_ }
  · show (σ.set i none).length = (s.sl.set i .no).length
    rw [List.length_set, List.length_set]
    exact a.len
  · have h1 : (s.sl.set i .no)[j]? = some u := h1
    by_cases hj : i = j
    · subst hj
      have hl : i < s.sl.length := by
        have := (List.getElem?_eq_some_iff.mp h1).1
        rwa [List.length_set] at this
      rw [List.getElem?_set_self hl] at h1
      cases h1
      exact absurd rfl h2
    · rw [List.getElem?_set_ne hj] at h1
      obtain ⟨v', e, r⟩ := a.env j u h1 h2
      exact ⟨v', by rw [List.getElem?_set_ne hj]; exact e, r⟩
theorem AtG.wipe (a : AtG C F G ps H σ s pd wk) : ∀ vs : List Nat, AtG C F G ps H (L2.wipe σ vs) (s.wipe vs) pd wk
  | [] => a
  | v :: vs => (AtG.wipe a vs).unset
theorem rpl_of {ds : List PyData} : ∀ {vs : List V}, Paired (RpW C P G ps) vs (ds.map W.d) → RpL C.K C.cl G vs ds := by
  induction ds with
  | nil =>
    intro vs h
    cases h
    exact .nil
  | cons d ds ih =>
    intro vs h
    cases h with
    | cons h r => exact .cons h (ih r)
theorem rpw_of {ds : List PyData} : ∀ {vs : List V}, RpL C.K C.cl G vs ds → Paired (RpW C P G ps) vs (ds.map W.d) := by
  induction ds with
  | nil =>
    intro vs h
    cases h
    exact .nil
  | cons d ds ih =>
    intro vs h
    cases h with
    | cons h r => exact .cons h (ih r)
theorem RpW.frz {k : Nat} {p : Addr} {ds : List PyData} (e : Ex G G') (hk : ps[k]? = some p) (hp : Rp C.K C.cl G' (.ref p) (.list ds)) : ∀ {v : V} {w : W}, RpW C P G ps v w → RpW C P G' ps v (w.frz k ds)
  | _, .d _, h => Rp.mono e h
  | v, .m j, ⟨q, h1, h2⟩ => by
    show RpW C P G' ps v (if j = k then W.d (.list ds) else W.m j)
    by_cases hj : j = k
    · rw [if_pos hj]
      subst hj
      rw [hk] at h1
      cases h1
      rw [h2]
      exact hp
    · rw [if_neg hj]
      exact ⟨q, h1, h2⟩
  | _, .pen, h => h
  | _, .v _, h => h
theorem W.frz_ne {k : Nat} {ds : List PyData} : ∀ {w : W}, w.frz k ds ≠ .no → w ≠ .no
  | .no, h, _ => h rfl
  | .d _, _, e => nomatch e
  | .m _, _, e => nomatch e
  | .pen, _, e => nomatch e
  | .v _, _, e => nomatch e
theorem Paired.mapR {α β γ : Type} {P : α → β → Prop} {Q : α → γ → Prop} {f : β → γ} : ∀ {l : List α} {m : List β}, PySem.Paired P l m → (∀ a b, P a b → Q a (f b)) → PySem.Paired Q l (m.map f)
  | _, _, .nil, _ => .nil
  | _, _, .cons h r, k => .cons (k _ _ h) (Paired.mapR r k)
theorem AtG.freeze {k : Nat} {ds : List PyData} (a : AtG C F G ps H σ s pd wk) (hm : s.ms[k]? = some (some (ds.map W.d))) : ∃ G', AtG C F G' ps H σ (s.frz k ds) (pd.map fun q => (q.1, q.2.frz k ds)) wk := by
  have hkl : k < ps.length := by
    rw [a.psl]
    exact (List.getElem?_eq_some_iff.mp hm).1
  obtain ⟨p, hp⟩ : ∃ p, ps[k]? = some p := ⟨_, List.getElem?_eq_getElem hkl⟩
  obtain ⟨n0, ng, vs, eh, r⟩ := a.ms k p _ hp hm
  have eg : Ex G (upd G p (.lst vs)) := Ex.new ng
  have rl := RpL.mono eg (rpl_of r)
  have rp : Rp C.K C.cl (upd G p (.lst vs)) (.ref p) (.list ds) := .lst upd_same rl
  have up : ∀ {v : V} {w : W}, RpW C F.pn.P G ps v w → RpW C F.pn.P (upd G p (.lst vs)) ps v (w.frz k ds) := fun h => h.frz eg hp rp
  refine ⟨upd G p (.lst vs), fun b o e => ?_, a.g0.trans eg, a.h0, fun b h g => ?_, ?_, fun i w h1 h2 => ?_, a.psn, ?_, fun j q ws h1 h2 => ?_, fun q hq => ?_, fun q hq => ⟨(a.wkm q hq).1, (a.wkm q hq).1 _ _ eg (a.wkm q hq).2⟩, F.pn.px _ _ _ _ _ eg (fun _ _ h _ => h) a.pn, a.psh, a.pk⟩
  · by_cases hb : b = p
    · rw [hb, upd_same] at e
      cases e
      rw [hb]
      exact eh
    · rw [upd_ne hb] at e
      exact a.gh b o e
  · have hb : b ≠ p := fun z => by
      rw [z] at h
      exact h n0
    rw [upd_ne hb]
    exact a.fr b h g
  · show σ.length = (s.sl.map (W.frz k ds)).length
    rw [List.length_map]
    exact a.len
  · have h1 : (s.sl.map (W.frz k ds))[i]? = some w := h1
    rw [List.getElem?_map] at h1
    cases e : s.sl[i]? with
    | none =>
      rw [e] at h1
      cases h1
    | some u =>
      rw [e] at h1
      cases h1
      obtain ⟨v, e1, r1⟩ := a.env i u e (W.frz_ne h2)
      exact ⟨v, e1, up r1⟩
  · show ps.length = ((s.ms.set k none).map _).length
    rw [List.length_map, List.length_set]
    exact a.psl
  · have h2 : ((s.ms.set k none).map (Option.map (List.map (W.frz k ds))))[j]? = some (some ws) := h2
    rw [List.getElem?_map] at h2
    by_cases hj : k = j
    · subst hj
      rw [List.getElem?_set_self (by rw [← a.psl]; exact hkl)] at h2
      cases h2
    · rw [List.getElem?_set_ne hj] at h2
      cases e : s.ms[j]? with
      | none =>
        rw [e] at h2
        cases h2
      | some u =>
        rw [e] at h2
        cases u with
        | none => cases h2
        | some us =>
          cases h2
          obtain ⟨e1, e2, vs2, e3, r2⟩ := a.ms j q us h1 e
          have hq : q ≠ p := fun z => by
            rw [z] at h1
            exact hj ((List.getElem?_inj hkl a.psn).mp (hp.trans h1.symm))
          exact ⟨e1, by rw [upd_ne hq]; exact e2, vs2, e3, Paired.mapR r2 fun _ _ h => up h⟩
  · obtain ⟨q', hq', rfl⟩ := List.mem_map.mp hq
    exact up (a.pend q' hq')
end

/-! ### 4. the calculus -/
def EXok (C : Cn) (F : Fr) : Prop := ∀ er, C.Psi er → ∀ (Ca dx : Addr) (fs : List (Str × V)) (G2 H2 : Hp), C.cl er.c = some Ca → Ex F.G0 G2 → Ex G2 H2 → (∀ a o, ¬ F.pn.X a → F.H0 a = some o → H2 a = some o) → (∀ a, F.H0 a ≠ none → F.G0 a = none → G2 a = none) →
  H2 dx = some (.xd fs) → F.H0 dx = none → RpF C.K C.cl G2 fs er.fs → C.EX (.ref Ca) (some dx) H2
def wpe (C : Cn) (te : TE) (s : S) (Φ : W → S → Prop) : Prop := ∀ (F : Fr) (H : Hp) (σ : L2.St) (pd : List (V × W)) (wk : List (Hp → Prop)), EXok C F → At C F H σ s pd wk → ∀ Q : VK,
  (∀ v H2 w s2, Φ w s2 → At C F H2 σ s2 ((v, w) :: pd) wk → Q v H2) → te σ H Q
def wpt (C : Cn) (tt : TT) (s : S) (Φ : Bool → S → Prop) : Prop := ∀ (F : Fr) (H : Hp) (σ : L2.St) (pd : List (V × W)) (wk : List (Hp → Prop)), EXok C F → At C F H σ s pd wk → ∀ Q : Bool → Hp → Prop,
  (∀ b H2 s2, Φ b s2 → At C F H2 σ s2 pd wk → Q b H2) → tt σ H Q
def wpa (C : Cn) (ta : TA) (s : S) (Φ : List W → S → Prop) : Prop := ∀ (F : Fr) (H : Hp) (σ : L2.St) (pd : List (V × W)) (wk : List (Hp → Prop)), EXok C F → At C F H σ s pd wk → ∀ Q : List V → Hp → Prop,
  (∀ vs H2 ws s2, Φ ws s2 → vs.length = ws.length → At C F H2 σ s2 (vs.zip ws ++ pd) wk → Q vs H2) → ta σ H Q
def wpo (C : Cn) (to : TO) (s : S) (Φ : Option Int → S → Prop) : Prop := ∀ (F : Fr) (H : Hp) (σ : L2.St) (pd : List (V × W)) (wk : List (Hp → Prop)), EXok C F → At C F H σ s pd wk → ∀ Q : Option Int → Hp → Prop,
  (∀ o H2 s2, Φ o s2 → At C F H2 σ s2 pd wk → Q o H2) → to σ H Q
structure DE where
  nx : S → Prop
  rt : W → S → Prop
  bk : S → Prop := fun _ => False
  ct : S → Prop := fun _ => False
structure Ok (C : Cn) (F : Fr) (wk : List (Hp → Prop)) (D : DE) (E : Ends) : Prop where
  nx : ∀ σ H s, D.nx s → At C F H σ s [] wk → E.nx σ H
  rt : ∀ v H σ w s, D.rt w s → At C F H σ s [(v, w)] wk → E.rt v H
  bk : ∀ σ H s, D.bk s → At C F H σ s [] wk → E.bk σ H
  ct : ∀ σ H s, D.ct s → At C F H σ s [] wk → E.ct σ H
def wps (C : Cn) (t : TS) (s : S) (D : DE) : Prop := ∀ (F : Fr) (H : Hp) (σ : L2.St) (wk : List (Hp → Prop)), EXok C F → At C F H σ s [] wk → ∀ E : Ends, Ok C F wk D E → t E σ H
def wpg (C : Cn) (g : TG) (w : W) (s : S) (Φ : S → Prop) : Prop := ∀ (F : Fr) (H : Hp) (σ : L2.St) (v : V) (pd : List (V × W)) (wk : List (Hp → Prop)), EXok C F → At C F H σ s ((v, w) :: pd) wk → ∀ Q : L2.St → Hp → Prop,
  (∀ σ2 H2 s2, Φ s2 → At C F H2 σ2 s2 pd wk → Q σ2 H2) → g v σ H Q

section
variable {C : Cn} {s : S} {Φ : W → S → Prop} {ta tb te tc : TE} {w : W} {d : PyData}
theorem wpe.imp {Φ' : W → S → Prop} (h : wpe C te s Φ) (k : ∀ w s, Φ w s → Φ' w s) : wpe C te s Φ' := fun F H σ pd wk hx a Q q => h F H σ pd wk hx a Q fun v H2 w s2 f a2 => q v H2 w s2 (k w s2 f) a2
theorem wpt.imp {tt : TT} {Φ Φ' : Bool → S → Prop} (h : wpt C tt s Φ) (k : ∀ w s, Φ w s → Φ' w s) : wpt C tt s Φ' := fun F H σ pd wk hx a Q q => h F H σ pd wk hx a Q fun b H2 s2 f a2 => q b H2 s2 (k b s2 f) a2
theorem wpa.imp {ta : TA} {Φ Φ' : List W → S → Prop} (h : wpa C ta s Φ) (k : ∀ w s, Φ w s → Φ' w s) : wpa C ta s Φ' := fun F H σ pd wk hx a Q q => h F H σ pd wk hx a Q fun b H2 ws s2 f l a2 => q b H2 ws s2 (k ws s2 f) l a2
theorem wps.imp {t : TS} {D D' : DE} (h : wps C t s D) (k1 : ∀ s, D.nx s → D'.nx s) (k2 : ∀ w s, D.rt w s → D'.rt w s) (k3 : ∀ s, D.bk s → D'.bk s) (k4 : ∀ s, D.ct s → D'.ct s) : wps C t s D' := fun F H σ wk hx a E o =>
  h F H σ wk hx a E ⟨fun σ H s f => o.nx σ H s (k1 s f), fun v H σ w s f => o.rt v H σ w s (k2 w s f), fun σ H s f => o.bk σ H s (k3 s f), fun σ H s f => o.ct σ H s (k4 s f)⟩

/-! #### values -/
theorem wpe_var {i : Nat} {w : W} (h : s.sl[i]? = some w) (hw : w.is = true) (k : Φ w s) : wpe C (tVar i) s Φ := fun F H σ pd wk hx ⟨G, ps, a⟩ Q q => by
  obtain ⟨v, e, r⟩ := a.env i w h (by intro z; rw [z] at hw; cases hw)
  exact ⟨v, e, q v H w s k ⟨G, ps, a.push r⟩⟩
theorem wpe_int {i : Int} (k : Φ (.d (.int i)) s) : wpe C (tC (.int i)) s Φ := fun F H σ pd wk hx ⟨G, ps, a⟩ Q q => q _ H _ s k ⟨G, ps, a.push (w := .d (.int i)) (.int i)⟩
theorem wpe_str {i : Str} (k : Φ (.d (.str i)) s) : wpe C (tC (.str i)) s Φ := fun F H σ pd wk hx ⟨G, ps, a⟩ Q q => q _ H _ s k ⟨G, ps, a.push (w := .d (.str i)) (.str i)⟩
theorem wpe_bl {i : Bool} (k : Φ (.d (.bool i)) s) : wpe C (tC (.bl i)) s Φ := fun F H σ pd wk hx ⟨G, ps, a⟩ Q q => q _ H _ s k ⟨G, ps, a.push (w := .d (.bool i)) (.bl i)⟩
theorem wpe_non (k : Φ (.d .none) s) : wpe C (tC .non) s Φ := fun F H σ pd wk hx ⟨G, ps, a⟩ Q q => q _ H _ s k ⟨G, ps, a.push (w := .d .none) .non⟩
theorem wpe_raw {v : V} (k : Φ (.v v) s) : wpe C (tC v) s Φ := fun F H σ pd wk hx ⟨G, ps, a⟩ Q q => q _ H _ s k ⟨G, ps, a.push (w := .v v) rfl⟩

theorem rp_int {K : PySem.W.Frag} {cl : Str → Option Addr} {G : Hp} {v : V} {i : Int} (h : Rp K cl G v (.int i)) : v = .int i := by
  cases h
  rfl
theorem rp_bl {K : PySem.W.Frag} {cl : Str → Option Addr} {G : Hp} {v : V} {i : Bool} (h : Rp K cl G v (.bool i)) : v = .bl i := by
  cases h
  rfl
theorem rp_str {K : PySem.W.Frag} {cl : Str → Option Addr} {G : Hp} {v : V} {i : Str} (h : Rp K cl G v (.str i)) : v = .str i := by
  cases h
  rfl
/-- two operands, then r -/
theorem wpe_op {r : R2} (h : wpe C ta s fun w1 s1 => wpe C tb s1 fun w2 s2 => ∀ (F : Fr) (H : Hp) (σ : L2.St) (x y : V) (pd : List (V × W)) (wk : List (Hp → Prop)), At C F H σ s2 ((y, w2) :: (x, w1) :: pd) wk → ∀ Q : VK,
    (∀ v H2 w s3, Φ w s3 → At C F H2 σ s3 ((v, w) :: pd) wk → Q v H2) → r x y H Q) : wpe C (tOp r ta tb) s Φ := fun F H σ pd wk hx a Q q =>
  h F H σ pd wk hx a _ fun x H1 w1 s1 f1 a1 => f1 F H1 σ _ wk hx a1 _ fun y H2 w2 s2 f2 a2 => f2 F H2 σ x y pd wk a2 Q q
theorem wpe_opI {f : Int → Int → Int} (h : wpe C ta s fun w1 s1 => wpe C tb s1 fun w2 s2 => ∃ i j, w1 = .d (.int i) ∧ w2 = .d (.int j) ∧ Φ (.d (.int (f i j))) s2) : wpe C (tOp (rI0 fun i j => .int (f i j)) ta tb) s Φ :=
  wpe_op (h.imp fun w1 s1 h1 => h1.imp fun w2 s2 ⟨i, j, e1, e2, k⟩ F H σ x y pd wk ⟨G, ps, a⟩ Q q => by
    subst e1 e2
    exact ⟨i, j, rp_int a.pop.top, rp_int a.top, q _ H _ s2 k ⟨G, ps, a.pop.pop.push (w := .d (.int (f i j))) (.int _)⟩⟩)
theorem wpe_opB {f : Int → Int → Bool} (h : wpe C ta s fun w1 s1 => wpe C tb s1 fun w2 s2 => ∃ i j, w1 = .d (.int i) ∧ w2 = .d (.int j) ∧ Φ (.d (.bool (f i j))) s2) : wpe C (tOp (rI0 fun i j => .bl (f i j)) ta tb) s Φ :=
  wpe_op (h.imp fun w1 s1 h1 => h1.imp fun w2 s2 ⟨i, j, e1, e2, k⟩ F H σ x y pd wk ⟨G, ps, a⟩ Q q => by
    subst e1 e2
    exact ⟨i, j, rp_int a.pop.top, rp_int a.top, q _ H _ s2 k ⟨G, ps, a.pop.pop.push (w := .d (.bool (f i j))) (.bl _)⟩⟩)
theorem wpe_opC {c : Int → Int → Prop} {f : Int → Int → Int} (h : wpe C ta s fun w1 s1 => wpe C tb s1 fun w2 s2 => ∃ i j, w1 = .d (.int i) ∧ w2 = .d (.int j) ∧ c i j ∧ Φ (.d (.int (f i j))) s2) : wpe C (tOp (rI c fun i j => .int (f i j)) ta tb) s Φ :=
  wpe_op (h.imp fun w1 s1 h1 => h1.imp fun w2 s2 ⟨i, j, e1, e2, hc, k⟩ F H σ x y pd wk ⟨G, ps, a⟩ Q q => by
    subst e1 e2
    exact ⟨i, j, rp_int a.pop.top, rp_int a.top, hc, q _ H _ s2 k ⟨G, ps, a.pop.pop.push (w := .d (.int (f i j))) (.int _)⟩⟩)
/-- scalars -/
def sc : PyData → Option V
  | .none => some .non
  | .bool b => some (.bl b)
  | .int i => some (.int i)
  | .str x => some (.str x)
  | _ => none
theorem rp_sc {K : PySem.W.Frag} {cl : Str → Option Addr} {G : Hp} {v v' : V} {d : PyData} (h : Rp K cl G v d) (e : sc d = some v') : v = v' := by
  cases h <;> simp [sc] at e <;> exact e
theorem wpe_eqS (h : wpe C ta s fun w1 s1 => wpe C tb s1 fun w2 s2 => ∃ d e x y, w1 = .d d ∧ w2 = .d e ∧ sc d = some x ∧ sc e = some y ∧ scal x y = true ∧ Φ (.d (.bool (decide (x = y)))) s2) : wpe C (tOp rEq ta tb) s Φ :=
  wpe_op (h.imp fun w1 s1 h1 => h1.imp fun w2 s2 ⟨d, e, x', y', e1, e2, hd, he, hs, k⟩ F H σ x y pd wk ⟨G, ps, a⟩ Q q => by
    subst e1 e2
    obtain rfl := rp_sc a.pop.top hd
    obtain rfl := rp_sc a.top he
    exact ⟨hs, q _ H _ s2 k ⟨G, ps, a.pop.pop.push (w := .d (.bool _)) (.bl _)⟩⟩)
theorem wpe_neS (h : wpe C ta s fun w1 s1 => wpe C tb s1 fun w2 s2 => ∃ d e x y, w1 = .d d ∧ w2 = .d e ∧ sc d = some x ∧ sc e = some y ∧ scal x y = true ∧ Φ (.d (.bool (!decide (x = y)))) s2) : wpe C (tOp rNe ta tb) s Φ :=
  wpe_op (h.imp fun w1 s1 h1 => h1.imp fun w2 s2 ⟨d, e, x', y', e1, e2, hd, he, hs, k⟩ F H σ x y pd wk ⟨G, ps, a⟩ Q q => by
    subst e1 e2
    obtain rfl := rp_sc a.pop.top hd
    obtain rfl := rp_sc a.top he
    exact ⟨hs, q _ H _ s2 k ⟨G, ps, a.pop.pop.push (w := .d (.bool _)) (.bl _)⟩⟩)
theorem wpe_eqD (h : wpe C ta s fun w1 s1 => wpe C tb s1 fun w2 s2 => ∃ d e, w1 = .d d ∧ w2 = .d e ∧ pl 20 d = true ∧ pl 20 e = true ∧ Φ (.d (.bool (PyData.eqv d e))) s2) : wpe C (tOp (rEqD C.K) ta tb) s Φ :=
  wpe_op (h.imp fun w1 s1 h1 => h1.imp fun w2 s2 ⟨d, e, e1, e2, pd1, pe1, k⟩ F H σ x y pd wk ⟨G, ps, a⟩ Q q => by
    subst e1 e2
    have ex := a.gh
    exact ⟨d, e, (Rp.mono ex a.pop.top).dp (pl_plain _ _ pd1), (Rp.mono ex a.top).dp (pl_plain _ _ pe1), pl_shaped pd1 (by decide), pl_shaped pe1 (by decide), q _ H _ s2 k ⟨G, ps, a.pop.pop.push (w := .d (.bool _)) (.bl _)⟩⟩)
theorem wpe_neD (h : wpe C ta s fun w1 s1 => wpe C tb s1 fun w2 s2 => ∃ d e, w1 = .d d ∧ w2 = .d e ∧ pl 20 d = true ∧ pl 20 e = true ∧ Φ (.d (.bool (!PyData.eqv d e))) s2) : wpe C (tOp (rNeD C.K) ta tb) s Φ :=
  wpe_op (h.imp fun w1 s1 h1 => h1.imp fun w2 s2 ⟨d, e, e1, e2, pd1, pe1, k⟩ F H σ x y pd wk ⟨G, ps, a⟩ Q q => by
    subst e1 e2
    have ex := a.gh
    exact ⟨d, e, (Rp.mono ex a.pop.top).dp (pl_plain _ _ pd1), (Rp.mono ex a.top).dp (pl_plain _ _ pe1), pl_shaped pd1 (by decide), pl_shaped pe1 (by decide), q _ H _ s2 k ⟨G, ps, a.pop.pop.push (w := .d (.bool _)) (.bl _)⟩⟩)
/-- whether a value is None -/
def W.isN : W → Option Bool
  | .d .none => some true
  | .d _ => some false
  | .m _ => some false
  | .pen => some false
  | .v x => some (decide (x = .non))
  | .no => none
theorem rpw_isN {P : Addr} {G : Hp} {ps : List Addr} {v : V} {b : Bool} : ∀ {w : W}, RpW C P G ps v w → w.isN = some b → decide (v = .non) = b
  | .d d, h, e => by
    have h : Rp C.K C.cl G v d := h
    cases h <;> simp [W.isN] at e <;> simp [← e]
  | .m k, ⟨p, _, hv⟩, e => by
    rw [hv]
    simp [W.isN] at e
    simp [← e]
  | .pen, h, e => by
    have h : v = .ref P := h
    rw [h]
    simp [W.isN] at e
    simp [← e]
  | .v x, h, e => by
    have h : v = x := h
    rw [h]
    simpa [W.isN] using e
theorem wpe_isN (h : wpe C ta s fun w s1 => ∃ b, w.isN = some b ∧ Φ (.d (.bool b)) s1) : wpe C (tOp (fun x y H Q => y = .non ∧ Q (.bl (decide (x = .non))) H) ta (tC .non)) s Φ := fun F H σ pd wk hx a Q q =>
  h F H σ pd wk hx a _ fun v H1 w s1 ⟨b, hb, k⟩ ⟨G, ps, a1⟩ => by
    refine ⟨rfl, ?_⟩
    rw [rpw_isN a1.top hb]
    exact q _ _ _ _ k ⟨G, ps, a1.pop.push (w := .d (.bool b)) (.bl b)⟩
theorem wpe_notN (h : wpe C ta s fun w s1 => ∃ b, w.isN = some b ∧ Φ (.d (.bool (!b))) s1) : wpe C (tOp (fun x y H Q => y = .non ∧ Q (.bl (!decide (x = .non))) H) ta (tC .non)) s Φ := fun F H σ pd wk hx a Q q =>
  h F H σ pd wk hx a _ fun v H1 w s1 ⟨b, hb, k⟩ ⟨G, ps, a1⟩ => by
    refine ⟨rfl, ?_⟩
    rw [rpw_isN a1.top hb]
    exact q _ _ _ _ k ⟨G, ps, a1.pop.push (w := .d (.bool (!b))) (.bl _)⟩
theorem wpe_if {tt : TT} (h : wpt C tt s fun b s1 => (b = true → wpe C ta s1 Φ) ∧ (b = false → wpe C tb s1 Φ)) : wpe C (tIf tt ta tb) s Φ := fun F H σ pd wk hx a Q q =>
  h F H σ pd wk hx a _ fun b H1 s1 ⟨k1, k2⟩ a1 => by
    cases b with
    | true =>
      show ta σ H1 Q
      exact k1 rfl F H1 σ pd wk hx a1 Q q
    | false =>
      show tb σ H1 Q
      exact k2 rfl F H1 σ pd wk hx a1 Q q
theorem wpe_andV (h : wpe C ta s fun w s1 => ∃ b, w = .d (.bool b) ∧ (b = true → wpe C tb s1 Φ) ∧ (b = false → Φ (.d (.bool false)) s1)) : wpe C (tAndV ta tb) s Φ := fun F H σ pd wk hx a Q q =>
  h F H σ pd wk hx a _ fun v H1 w s1 ⟨b, e, k1, k2⟩ ⟨G, ps, a1⟩ => by
    subst e
    refine ⟨b, rp_bl a1.top, ?_⟩
    cases b with
    | true =>
      show tb σ H1 Q
      exact k1 rfl F H1 σ pd wk hx ⟨G, ps, a1.pop⟩ Q q
    | false =>
      show Q (.bl false) H1
      exact q _ _ _ _ (k2 rfl) ⟨G, ps, a1.pop.push (w := .d (.bool false)) (.bl _)⟩
theorem wpe_orV (h : wpe C ta s fun w s1 => ∃ b, w = .d (.bool b) ∧ (b = false → wpe C tb s1 Φ) ∧ (b = true → Φ (.d (.bool true)) s1)) : wpe C (tOrV ta tb) s Φ := fun F H σ pd wk hx a Q q =>
  h F H σ pd wk hx a _ fun v H1 w s1 ⟨b, e, k1, k2⟩ ⟨G, ps, a1⟩ => by
    subst e
    refine ⟨b, rp_bl a1.top, ?_⟩
    cases b with
    | false =>
      show tb σ H1 Q
      exact k1 rfl F H1 σ pd wk hx ⟨G, ps, a1.pop⟩ Q q
    | true =>
      show Q (.bl true) H1
      exact q _ _ _ _ (k2 rfl) ⟨G, ps, a1.pop.push (w := .d (.bool true)) (.bl _)⟩
theorem wpe_notV (h : wpe C ta s fun w s1 => ∃ b, w = .d (.bool b) ∧ Φ (.d (.bool (!b))) s1) : wpe C (tNotV ta) s Φ := fun F H σ pd wk hx a Q q =>
  h F H σ pd wk hx a _ fun v H1 w s1 ⟨b, e, k⟩ ⟨G, ps, a1⟩ => by
    subst e
    exact ⟨b, rp_bl a1.top, q _ _ _ _ k ⟨G, ps, a1.pop.push (w := .d (.bool (!b))) (.bl _)⟩⟩
/-- a < b < c of ints -/
theorem wpe_chain {f g : Int → Int → Bool} (h : wpe C ta s fun w1 s1 => wpe C tb s1 fun w2 s2 => ∃ i j, w1 = .d (.int i) ∧ w2 = .d (.int j) ∧ (f i j = true → wpe C tc s2 fun w3 s3 => ∃ k, w3 = .d (.int k) ∧ Φ (.d (.bool (g j k))) s3) ∧ (f i j = false → Φ (.d (.bool false)) s2)) :
    wpe C (tChain (rI0 fun i j => .bl (f i j)) (rI0 fun i j => .bl (g i j)) ta tb tc) s Φ := fun F H σ pd wk hx a Q q =>
  h F H σ pd wk hx a _ fun x H1 w1 s1 f1 a1 => f1 F H1 σ _ wk hx a1 _ fun y H2 w2 s2 ⟨i, j, e1, e2, k1, k2⟩ ⟨G, ps, a2⟩ => by
    subst e1 e2
    refine ⟨i, j, rp_int a2.pop.top, rp_int a2.top, f i j, rfl, ?_⟩
    have ey := rp_int a2.top
    cases hf : f i j with
    | true =>
      show tc σ H2 _
      refine k1 hf F H2 σ pd wk hx ⟨G, ps, a2.pop.pop⟩ _ fun z H3 w3 s3 ⟨k, e3, k3⟩ ⟨G3, ps3, a3⟩ => ?_
      subst e3
      exact ⟨j, k, ey, rp_int a3.top, q _ _ _ _ k3 ⟨G3, ps3, a3.pop.push (w := .d (.bool (g j k))) (.bl _)⟩⟩
    | false =>
      show Q (.bl false) H2
      exact q _ _ _ _ (k2 hf) ⟨G, ps, a2.pop.pop.push (w := .d (.bool false)) (.bl _)⟩

/-! #### tests -/
theorem wpt_test (h : wpe C te s fun w s1 => ∃ b, w = .d (.bool b) ∧ Ψ b s1) : wpt C (tTest te) s Ψ := fun F H σ pd wk hx a Q q =>
  h F H σ pd wk hx a _ fun v H1 w s1 ⟨b, e, k⟩ ⟨G, ps, a1⟩ => by
    subst e
    exact ⟨b, rp_bl a1.top, q _ _ _ k ⟨G, ps, a1.pop⟩⟩
theorem wpt_B (h : wpe C te s fun w s1 => ∃ b, w = .d (.bool b) ∧ Ψ b s1) : wpt C (tB te) s Ψ := fun F H σ pd wk hx a Q q =>
  h F H σ pd wk hx a _ fun v H1 w s1 ⟨b, e, k⟩ ⟨G, ps, a1⟩ => by
    subst e
    exact ⟨b, rp_bl a1.top, q _ _ _ k ⟨G, ps, a1.pop⟩⟩
theorem wpt_and {t u : TT} (h : wpt C t s fun b s1 => (b = true → wpt C u s1 Ψ) ∧ (b = false → Ψ false s1)) : wpt C (tAnd t u) s Ψ := fun F H σ pd wk hx a Q q =>
  h F H σ pd wk hx a _ fun b H1 s1 ⟨k1, k2⟩ a1 => by
    cases b with
    | true =>
      show u σ H1 Q
      exact k1 rfl F H1 σ pd wk hx a1 Q q
    | false =>
      show Q false H1
      exact q _ _ _ (k2 rfl) a1
theorem wpt_or {t u : TT} (h : wpt C t s fun b s1 => (b = false → wpt C u s1 Ψ) ∧ (b = true → Ψ true s1)) : wpt C (tOr t u) s Ψ := fun F H σ pd wk hx a Q q =>
  h F H σ pd wk hx a _ fun b H1 s1 ⟨k1, k2⟩ a1 => by
    cases b with
    | false =>
      show u σ H1 Q
      exact k1 rfl F H1 σ pd wk hx a1 Q q
    | true =>
      show Q true H1
      exact q _ _ _ (k2 rfl) a1
theorem wpt_not {t : TT} (h : wpt C t s fun b s1 => Ψ (!b) s1) : wpt C (tNot t) s Ψ := fun F H σ pd wk hx a Q q =>
  h F H σ pd wk hx a _ fun b H1 s1 k a1 => q _ _ _ k a1
theorem wpt_yes (k : Ψ true s) : wpt C tYes s Ψ := fun F H σ pd wk hx a Q q => q _ _ _ k a

/-! #### arguments, displays -/
theorem wpa_nil {Ψ : List W → S → Prop} (k : Ψ [] s) : wpa C tNil s Ψ := fun F H σ pd wk hx a Q q => q [] H [] s k rfl a
theorem wpa_cons {tr : TA} {Ψ : List W → S → Prop} (h : wpe C te s fun w s1 => wpa C tr s1 fun ws s2 => Ψ (w :: ws) s2) : wpa C (tCons te tr) s Ψ := fun F H σ pd wk hx a Q q =>
  h F H σ pd wk hx a _ fun v H1 w s1 f1 a1 => f1 F H1 σ _ wk hx a1 _ fun vs H2 ws s2 f2 l ⟨G, ps, a2⟩ => q _ H2 _ s2 f2 (congrArg (· + 1) l) ⟨G, ps, a2.sub fun x hx => by
    simp only [List.zip_cons_cons, List.cons_append, List.mem_cons, List.mem_append] at hx ⊢
    rcases hx with h | h | h
    · exact .inr (.inl h)
    · exact .inl h
    · exact .inr (.inr h)⟩
theorem zip_pair {C : Cn} {P : Addr} {G : Hp} {ps : List Addr} : ∀ {vs : List V} {ws : List W}, vs.length = ws.length → (∀ q ∈ vs.zip ws, RpW C P G ps q.1 q.2) → Paired (RpW C P G ps) vs ws
  | [], [], _, _ => .nil
  | v :: vs, w :: ws, l, h => .cons (h (v, w) (by simp)) (zip_pair (Nat.succ.inj l) fun q hq => h q (by simp [hq]))
  | [], _ :: _, l, _ => by simp at l
  | _ :: _, [], l, _ => by simp at l
theorem AtG.args {F : Fr} {G : Hp} {ps : List Addr} {H : Hp} {σ : L2.St} {pd : List (V × W)} {wk : List (Hp → Prop)} {vs : List V} {ws : List W} (a : AtG C F G ps H σ s (vs.zip ws ++ pd) wk) (l : vs.length = ws.length) : Paired (RpW C F.pn.P G ps) vs ws :=
  zip_pair l fun q hq => a.pend q (List.mem_append_left _ hq)
theorem AtG.rest {F : Fr} {G : Hp} {ps : List Addr} {H : Hp} {σ : L2.St} {pd pd' : List (V × W)} {wk : List (Hp → Prop)} (a : AtG C F G ps H σ s (pd' ++ pd) wk) : AtG C F G ps H σ s pd wk := a.sub fun _ h => List.mem_append_right _ h
theorem wpe_tup {ta : TA} (h : wpa C ta s fun ws s1 => ∃ ds : List PyData, ws = ds.map W.d ∧ ds.length ≤ 100000 ∧ Φ (.d (.tuple ds)) s1) : wpe C (tTup ta) s Φ := fun F H σ pd wk hx a Q q =>
  h F H σ pd wk hx a _ fun vs H1 ws s1 ⟨ds, e, hl, k⟩ l ⟨G, ps, a1⟩ => by
    subst e
    have r := rpl_of (a1.args l)
    refine ⟨sz_of (by rw [r.length]; exact hl), fun p hp => ?_⟩
    have n := nw_new (o := .tup vs) a1.gh hp
    exact q _ _ _ _ k ⟨_, ps, (a1.rest.step n).push (w := .d (.tuple ds)) (.tup (st_of upd_same) (RpL.mono n.gg r))⟩
theorem wpe_lst {ta : TA} (h : wpa C ta s fun ws s1 => ∃ ds : List PyData, ws = ds.map W.d ∧ ds.length ≤ 100000 ∧ Φ (.d (.list ds)) s1) : wpe C (tLst ta) s Φ := fun F H σ pd wk hx a Q q =>
  h F H σ pd wk hx a _ fun vs H1 ws s1 ⟨ds, e, hl, k⟩ l ⟨G, ps, a1⟩ => by
    subst e
    have r := rpl_of (a1.args l)
    refine ⟨sz_of (by rw [r.length]; exact hl), fun p hp => ?_⟩
    have n := nw_new (o := .lst vs) a1.gh hp
    exact q _ _ _ _ k ⟨_, ps, (a1.rest.step n).push (w := .d (.list ds)) (.lst upd_same (RpL.mono n.gg r))⟩
/-- a list that is to be changed -/
theorem wpe_lstM {ta : TA} (h : wpa C ta s fun ws s1 => ws.length ≤ 100000 ∧ Φ (.m s1.ms.length) (s1.new ws)) : wpe C (tLst ta) s Φ := fun F H σ pd wk hx a Q q =>
  h F H σ pd wk hx a _ fun vs H1 ws s1 ⟨hl, k⟩ l ⟨G, ps, a1⟩ => ⟨sz_of (by rw [l]; exact hl), fun p hp => q _ _ _ _ k ⟨G, _, a1.rest.cell hp (a1.args l)⟩⟩
end
end DL
set_option Elab.async false
set_option linter.all false
set_option maxRecDepth 100000
set_option maxHeartbeats 2000000
namespace DL
open PySem L2 Evl

/-! ### 5. lists and tuples read -/
def lstW (s : S) : W → Option (List W)
  | .d (.list ds) => some (ds.map .d)
  | .m k => match s.ms[k]? with
    | some (some ws) => some ws
    | _ => none
  | _ => none
def tupW : W → Option (List W)
  | .d (.tuple ds) => some (ds.map .d)
  | _ => none
section
variable {C : Cn} {F : Fr} {G : Hp} {ps : List Addr} {H : Hp} {σ : L2.St} {s : S} {pd : List (V × W)} {wk : List (Hp → Prop)} {v : V} {w : W}
theorem AtG.lst {ws : List W} (a : AtG C F G ps H σ s pd wk) (r : RpW C F.pn.P G ps v w) (h : lstW s w = some ws) : ∃ p vs, v = .ref p ∧ H p = some (.lst vs) ∧ Paired (RpW C F.pn.P G ps) vs ws := by
  cases w with
  | d x =>
    cases x <;> simp [lstW] at h
    subst h
    have r : Rp C.K C.cl G v (.list _) := r
    cases r with
    | lst h1 h2 => exact ⟨_, _, rfl, a.gh _ _ h1, rpw_of h2⟩
  | m k =>
    obtain ⟨p, hp, e⟩ := r
    cases hm : s.ms[k]? with
    | none => simp [lstW, hm] at h
    | some o =>
      cases o with
      | none => simp [lstW, hm] at h
      | some us =>
        simp [lstW, hm] at h
        subst h
        obtain ⟨_, _, vs, eh, r2⟩ := a.ms k p us hp hm
        exact ⟨p, vs, e, eh, r2⟩
  | _ => simp [lstW] at h
theorem AtG.tpl {ws : List W} (a : AtG C F G ps H σ s pd wk) (r : RpW C F.pn.P G ps v w) (h : tupW w = some ws) : ∃ p vs, v = .ref p ∧ SqT C.K H p vs ∧ Paired (RpW C F.pn.P G ps) vs ws := by
  cases w with
  | d x =>
    cases x <;> simp [tupW] at h
    subst h
    have r : Rp C.K C.cl G v (.tuple _) := r
    cases r with
    | tup h1 h2 => exact ⟨_, _, rfl, ex_t a.gh h1, rpw_of h2⟩
  | _ => simp [tupW] at h
theorem Paired.getR {α β : Type} {P : α → β → Prop} : ∀ {l : List α} {m : List β} {i : Nat} {b : β}, PySem.Paired P l m → m[i]? = some b → ∃ a, l[i]? = some a ∧ P a b
  | _, _, _, _, .nil, e => by simp at e
  | _, _, 0, _, .cons h _, e => by
    simp at e
    subst e
    exact ⟨_, rfl, h⟩
  | _, _, i + 1, _, .cons _ r, e => by
    obtain ⟨a, h1, h2⟩ := Paired.getR (i := i) r (by simpa using e)
    exact ⟨a, by simpa using h1, h2⟩
theorem pair_at {P : V → W → Prop} {vs : List V} {ws : List W} {i : Int} {w : W} (r : Paired P vs ws) (h : atI ws i = some w) : ∃ v, atI vs i = some v ∧ P v w := by
  unfold atI at h ⊢
  rw [r.length]
  cases e : ixN ws.length i with
  | none =>
    rw [e] at h
    cases h
  | some j =>
    rw [e] at h
    exact Paired.getR r h
theorem atI_nat {α : Type} {xs : List α} {i : Int} {x : α} (h0 : 0 ≤ i) (h : xs[i.toNat]? = some x) : atI xs i = some x := by
  have hl := (List.getElem?_eq_some_iff.mp h).1
  unfold atI ixN
  rw [if_pos h0, if_pos (by omega)]
  exact h
theorem atI_last {α : Type} {xs : List α} {x : α} (h : xs.getLast? = some x) : atI xs (-1) = some x := by
  have hne : xs ≠ [] := fun e => by
    rw [e] at h
    cases h
  have hl : 0 < xs.length := List.length_pos_iff.mpr hne
  unfold atI ixN
  rw [if_neg (by omega), if_pos (by omega)]
  show xs[(-1 + (xs.length : Int)).toNat]? = some x
  rw [show (-1 + (xs.length : Int)).toNat = xs.length - 1 by omega]
  rw [← List.getLast?_eq_getElem?]
  exact h
theorem atI_d {ds : List PyData} {i : Int} {d : PyData} (h : atI ds i = some d) : atI (ds.map W.d) i = some (.d d) := by
  unfold atI at h ⊢
  rw [List.length_map]
  cases e : ixN ds.length i with
  | none =>
    rw [e] at h
    cases h
  | some j =>
    rw [e] at h
    show (ds.map W.d)[j]? = some (.d d)
    rw [List.getElem?_map, show ds[j]? = some d from h]
    rfl
end
section
variable {C : Cn} {s : S} {Φ : W → S → Prop} {ta tb te tc : TE} {w : W} {d : PyData}
theorem wpe_ixL (h : wpe C ta s fun w1 s1 => wpe C tb s1 fun w2 s2 => ∃ ws i w, lstW s2 w1 = some ws ∧ w2 = .d (.int i) ∧ atI ws i = some w ∧ Φ w s2) : wpe C (tOp (rIxL C.K) ta tb) s Φ :=
  wpe_op (h.imp fun w1 s1 h1 => h1.imp fun w2 s2 ⟨ws, i, w, e1, e2, hi, k⟩ F H σ x y pd wk ⟨G, ps, a⟩ Q q => by
    subst e2
    obtain ⟨p, vs, ex, hp, r⟩ := a.lst a.pop.top e1
    obtain ⟨v, hv, rv⟩ := pair_at r hi
    exact ⟨p, vs, i, v, ex, rp_int a.top, sq_of hp, hv, q _ H _ s2 k ⟨G, ps, a.pop.pop.push rv⟩⟩)
theorem wpe_ixT (h : wpe C ta s fun w1 s1 => wpe C tb s1 fun w2 s2 => ∃ ws i w, tupW w1 = some ws ∧ w2 = .d (.int i) ∧ atI ws i = some w ∧ Φ w s2) : wpe C (tOp (rIxT C.K) ta tb) s Φ :=
  wpe_op (h.imp fun w1 s1 h1 => h1.imp fun w2 s2 ⟨ws, i, w, e1, e2, hi, k⟩ F H σ x y pd wk ⟨G, ps, a⟩ Q q => by
    subst e2
    obtain ⟨p, vs, ex, hp, r⟩ := a.tpl a.pop.top e1
    obtain ⟨v, hv, rv⟩ := pair_at r hi
    exact ⟨p, vs, i, v, ex, rp_int a.top, hp, hv, q _ H _ s2 k ⟨G, ps, a.pop.pop.push rv⟩⟩)
/-- a list or a tuple -/
def seqW (s : S) (w : W) : Option (List W) := match lstW s w with
  | some ws => some ws
  | none => tupW w
theorem seqW_cases {ws : List W} (h : seqW s w = some ws) : lstW s w = some ws ∨ tupW w = some ws := by
  unfold seqW at h
  cases e : lstW s w with
  | some us =>
    rw [e] at h
    exact .inl h
  | none =>
    rw [e] at h
    exact .inr h
theorem wpe_ix (h : wpe C ta s fun w1 s1 => wpe C tb s1 fun w2 s2 => ∃ ws i w, seqW s2 w1 = some ws ∧ w2 = .d (.int i) ∧ atI ws i = some w ∧ Φ w s2) : wpe C (tOp (rIx C.K) ta tb) s Φ :=
  wpe_op (h.imp fun w1 s1 h1 => h1.imp fun w2 s2 ⟨ws, i, w, e1, e2, hi, k⟩ F H σ x y pd wk ⟨G, ps, a⟩ Q q => by
    subst e2
    rcases seqW_cases e1 with e1 | e1
    · obtain ⟨p, vs, ex, hp, r⟩ := a.lst a.pop.top e1
      obtain ⟨v, hv, rv⟩ := pair_at r hi
      exact .inl ⟨p, vs, i, v, ex, rp_int a.top, sq_of hp, hv, q _ H _ s2 k ⟨G, ps, a.pop.pop.push rv⟩⟩
    · obtain ⟨p, vs, ex, hp, r⟩ := a.tpl a.pop.top e1
      obtain ⟨v, hv, rv⟩ := pair_at r hi
      exact .inr (.inl ⟨p, vs, i, v, ex, rp_int a.top, hp, hv, q _ H _ s2 k ⟨G, ps, a.pop.pop.push rv⟩⟩))
/-! #### slices -/
def cut {α : Type} (xs : List α) (lo hi : Option Int) : List α := (xs.drop (HT.sIx xs.length 0 lo)).take (HT.sIx xs.length xs.length hi - HT.sIx xs.length 0 lo)
theorem wpo_none {Ψ : Option Int → S → Prop} (k : Ψ none s) : wpo C tNoPart s Ψ := fun F H σ pd wk hx a Q q => q none H s k a
theorem wpo_some {Ψ : Option Int → S → Prop} (h : wpe C te s fun w s1 => ∃ i, w = .d (.int i) ∧ Ψ (some i) s1) : wpo C (tPart te) s Ψ := fun F H σ pd wk hx a Q q =>
  h F H σ pd wk hx a _ fun v H1 w s1 ⟨i, e, k⟩ ⟨G, ps, a1⟩ => by
    subst e
    exact ⟨i, rp_int a1.top, q _ _ _ k ⟨G, ps, a1.pop⟩⟩
theorem wpe_slL {tl th : TO} (h : wpe C te s fun w s1 => wpo C tl s1 fun lo s2 => wpo C th s2 fun hi s3 => ∃ ds, w = .d (.list ds) ∧ Φ (.d (.list (cut ds lo hi))) s3) : wpe C (tSl (rSlL C.K) te tl th) s Φ := fun F H σ pd wk hx a Q q =>
  h F H σ pd wk hx a _ fun v H1 w s1 h1 a1 => h1 F H1 σ _ wk hx a1 _ fun lo H2 s2 h2 a2 => h2 F H2 σ _ wk hx a2 _ fun hi H3 s3 ⟨ds, e, k⟩ ⟨G, ps, a3⟩ => by
    subst e
    have r : Rp C.K C.cl G v (.list ds) := a3.top
    cases r with
    | @lst p xs _ hp rl =>
      refine ⟨p, xs, rfl, sq_of (a3.gh _ _ hp), fun l hl => ?_⟩
      have n := nw_new (o := .lst (cutV xs lo hi)) a3.gh hl
      refine q _ _ _ _ k ⟨_, ps, (a3.pop.step n).push (w := .d (.list (cut ds lo hi))) (.lst upd_same ?_)⟩
      have : RpL C.K C.cl G (cutV xs lo hi) (cut ds lo hi) := by
        unfold cutV cut
        rw [rl.length]
        exact (rl.drop _).take _
      exact this.mono n.gg
theorem wpe_slA {tl th : TO} (h : wpe C te s fun w s1 => wpo C tl s1 fun lo s2 => wpo C th s2 fun hi s3 => ∃ ds, w = .d (.tuple ds) ∧ Φ (.d (.tuple (cut ds lo hi))) s3) : wpe C (tSl (rSlA C.K) te tl th) s Φ := fun F H σ pd wk hx a Q q =>
  h F H σ pd wk hx a _ fun v H1 w s1 h1 a1 => h1 F H1 σ _ wk hx a1 _ fun lo H2 s2 h2 a2 => h2 F H2 σ _ wk hx a2 _ fun hi H3 s3 ⟨ds, e, k⟩ ⟨G, ps, a3⟩ => by
    subst e
    have r : Rp C.K C.cl G v (.tuple ds) := a3.top
    cases r with
    | @tup p xs _ hp rl =>
      have rc : RpL C.K C.cl G (cutV xs lo hi) (cut ds lo hi) := by
        unfold cutV cut
        rw [rl.length]
        exact (rl.drop _).take _
      refine ⟨p, xs, rfl, ex_t a3.gh hp, fun hw => ?_, fun _ l hl => ?_⟩
      · have e : cut ds lo hi = ds := by
          unfold cut
          rw [rl.length] at hw
          rw [hw.1, hw.2, List.drop_zero, Nat.sub_zero, List.take_length]
        rw [e] at k
        exact q _ _ _ _ k ⟨G, ps, a3⟩
      · have n := nw_new (o := .tup (cutV xs lo hi)) a3.gh hl
        exact q _ _ _ _ k ⟨_, ps, (a3.pop.step n).push (w := .d (.tuple (cut ds lo hi))) (.tup (st_of upd_same) (rc.mono n.gg))⟩
theorem cut_to {α : Type} (xs : List α) (k : Nat) : cut xs none (some (k : Int)) = xs.take k := by
  unfold cut
  rw [HT.sIx_none, List.drop_zero, Nat.sub_zero, HT.sIx_nat]
  by_cases h : k ≤ xs.length
  · rw [Nat.min_eq_left h]
  · rw [Nat.min_eq_right (by omega), List.take_length, List.take_of_length_le (by omega)]
theorem cut_from {α : Type} (xs : List α) (k : Nat) : cut xs (some (k : Int)) none = xs.drop k := by
  unfold cut
  rw [HT.sIx_none, HT.sIx_nat]
  by_cases h : k ≤ xs.length
  · rw [Nat.min_eq_left h, List.take_of_length_le (by rw [List.length_drop]; exact Nat.le_refl _)]
  · rw [Nat.min_eq_right (by omega), Nat.sub_self, List.take_zero, List.drop_of_length_le (by omega)]
theorem cut_toI {α : Type} (xs : List α) {i : Int} {k : Nat} (h : i = k) : cut xs none (some i) = xs.take k := by
  rw [h]
  exact cut_to xs k
theorem cut_fromI {α : Type} (xs : List α) {i : Int} {k : Nat} (h : i = k) : cut xs (some i) none = xs.drop k := by
  rw [h]
  exact cut_from xs k
theorem cut_map {α β : Type} (f : α → β) (xs : List α) (lo hi : Option Int) : cut (xs.map f) lo hi = (cut xs lo hi).map f := by
  unfold cut
  rw [List.length_map, List.map_take, List.map_drop]
/-! #### + of lists, of tuples -/
theorem wpe_cat (h : wpe C ta s fun w1 s1 => wpe C tb s1 fun w2 s2 => ∃ ds es, w1 = .d (.list ds) ∧ w2 = .d (.list es) ∧ ds.length + es.length ≤ 100000 ∧ Φ (.d (.list (ds ++ es))) s2) : wpe C (tOp rCat ta tb) s Φ :=
  wpe_op (h.imp fun w1 s1 h1 => h1.imp fun w2 s2 ⟨ds, es, e1, e2, hl, k⟩ F H σ x y pd wk ⟨G, ps, a⟩ Q q => by
    subst e1 e2
    have r1 : Rp C.K C.cl G x (.list ds) := a.pop.top
    have r2 : Rp C.K C.cl G y (.list es) := a.top
    cases r1 with
    | @lst p xs _ hp rl =>
      cases r2 with
      | @lst p2 ys _ hp2 rl2 =>
        refine ⟨p, p2, xs, ys, rfl, rfl, a.gh _ _ hp, a.gh _ _ hp2, sz_of (by rw [rl.length, rl2.length]; exact hl), fun l hl => ?_⟩
        have n := nw_new (o := .lst (xs ++ ys)) a.gh hl
        exact q _ _ _ _ k ⟨_, ps, (a.pop.pop.step n).push (w := .d (.list (ds ++ es))) (.lst upd_same ((rl.append rl2).mono n.gg))⟩)
theorem wpe_catA (h : wpe C ta s fun w1 s1 => wpe C tb s1 fun w2 s2 => ∃ ds es, w1 = .d (.tuple ds) ∧ w2 = .d (.tuple es) ∧ ds.length + es.length ≤ 100000 ∧ Φ (.d (.tuple (ds ++ es))) s2) : wpe C (tOp (rCatA C.K) ta tb) s Φ :=
  wpe_op (h.imp fun w1 s1 h1 => h1.imp fun w2 s2 ⟨ds, es, e1, e2, hl, k⟩ F H σ x y pd wk ⟨G, ps, a⟩ Q q => by
    subst e1 e2
    have r1 : Rp C.K C.cl G x (.tuple ds) := a.pop.top
    have r2 : Rp C.K C.cl G y (.tuple es) := a.top
    cases r1 with
    | @tup p xs _ hp rl =>
      cases r2 with
      | @tup p2 ys _ hp2 rl2 =>
        have e1 : xs = [] → ds = [] := fun e => by
          have := rl.length
          rw [e] at this
          exact List.length_eq_zero_iff.mp this.symm
        have e2 : ys = [] → es = [] := fun e => by
          have := rl2.length
          rw [e] at this
          exact List.length_eq_zero_iff.mp this.symm
        refine ⟨p, p2, xs, ys, rfl, rfl, ex_t a.gh hp, ex_t a.gh hp2, sz_of (by rw [rl.length, rl2.length]; exact hl), fun e => ?_, fun _ e => ?_, fun _ _ l hl => ?_⟩
        · rw [e1 e, List.nil_append] at k
          exact q _ _ _ _ k ⟨G, ps, a.pop.pop.push (w := .d (.tuple es)) a.top⟩
        · rw [e2 e, List.append_nil] at k
          exact q _ _ _ _ k ⟨G, ps, a.pop⟩
        · have n := nw_new (o := .tup (xs ++ ys)) a.gh hl
          exact q _ _ _ _ k ⟨_, ps, (a.pop.pop.step n).push (w := .d (.tuple (ds ++ es))) (.tup (st_of upd_same) ((rl.append rl2).mono n.gg))⟩)
theorem RpL.flat {K : PySem.W.Frag} {cl : Str → Option Addr} {H : Hp} : ∀ {n : Nat} {vs : List V} {ds : List PyData}, RpL K cl H vs ds → RpL K cl H (List.replicate n vs).flatten (List.replicate n ds).flatten
  | 0, _, _, _ => .nil
  | n + 1, vs, ds, h => by
    rw [List.replicate_succ, List.replicate_succ, List.flatten_cons, List.flatten_cons]
    exact h.append (RpL.flat h)
theorem wpe_rep (h : wpe C ta s fun w1 s1 => wpe C tb s1 fun w2 s2 => ∃ ds i, w1 = .d (.list ds) ∧ w2 = .d (.int i) ∧ 0 ≤ i ∧ i ≤ 100000 ∧ ds.length * i.toNat ≤ 100000 ∧ Φ (.d (.list (List.replicate i.toNat ds).flatten)) s2) : wpe C (tOp rRep ta tb) s Φ :=
  wpe_op (h.imp fun w1 s1 h1 => h1.imp fun w2 s2 ⟨ds, i, e1, e2, i0, i1, hl, k⟩ F H σ x y pd wk ⟨G, ps, a⟩ Q q => by
    subst e1 e2
    have r1 : Rp C.K C.cl G x (.list ds) := a.pop.top
    cases r1 with
    | @lst p xs _ hp rl =>
      refine ⟨p, i, xs, rfl, rp_int a.top, a.gh _ _ hp, by omega, by omega, sz_of (by rw [rl.length]; exact hl), fun l hl => ?_⟩
      have n := nw_new (o := .lst (List.replicate i.toNat xs).flatten) a.gh hl
      exact q _ _ _ _ k ⟨_, ps, (a.pop.pop.step n).push (w := .d (.list _)) (.lst upd_same ((RpL.flat rl).mono n.gg))⟩)
theorem inV_ints {a : Int} {ns : List Int} : inV (.int a) (ns.map V.int) = decide (a ∈ ns) := by
  unfold inV
  induction ns with
  | nil => simp
  | cons n ns ih =>
    rw [List.map_cons, List.any_cons, ih]
    show ((n == a) || decide (a ∈ ns)) = decide (a ∈ n :: ns)
    by_cases h : a = n
    · subst h
      simp
    · have : (n == a) = false := by simpa using fun e => h e.symm
      rw [this]
      simp [h]
/-- an int in a list of ints -/
theorem wpe_inI (h : wpe C ta s fun w1 s1 => wpe C tb s1 fun w2 s2 => ∃ (i : Int) (ns : List Int), w1 = .d (.int i) ∧ w2 = .d (.list (ns.map .int)) ∧ Φ (.d (.bool (decide (i ∈ ns)))) s2) : wpe C (tOp (rIn C.K false) ta tb) s Φ :=
  wpe_op (h.imp fun w1 s1 h1 => h1.imp fun w2 s2 ⟨i, ns, e1, e2, k⟩ F H σ x y pd wk ⟨G, ps, a⟩ Q q => by
    subst e1 e2
    have r2 : Rp C.K C.cl G y (.list (ns.map .int)) := a.top
    have ex := rp_int a.pop.top
    subst ex
    cases r2 with
    | @lst p xs _ hp rl =>
      have e := rl.ints
      subst e
      refine ⟨p, _, rfl, .inl (sq_of (a.gh _ _ hp)), rfl, by rw [List.all_map]; exact List.all_eq_true.mpr fun _ _ => rfl, ?_⟩
      show Q (.bl (if false = true then !inV (.int i) (ns.map V.int) else inV (.int i) (ns.map V.int))) H
      rw [if_neg Bool.false_ne_true, inV_ints]
      exact q _ _ _ _ k ⟨G, ps, a.pop.pop.push (w := .d (.bool _)) (.bl _)⟩)

/-! #### built-ins -/
theorem wpe_cb {r : List V → Hp → VK → Prop} {ta : TA} (h : wpa C ta s fun ws s1 => ∀ (F : Fr) (H : Hp) (σ : L2.St) (vs : List V) (pd : List (V × W)) (wk : List (Hp → Prop)), vs.length = ws.length → At C F H σ s1 (vs.zip ws ++ pd) wk → ∀ Q : VK,
    (∀ v H2 w s3, Φ w s3 → At C F H2 σ s3 ((v, w) :: pd) wk → Q v H2) → r vs H Q) : wpe C (tCB r ta) s Φ := fun F H σ pd wk hx a Q q =>
  h F H σ pd wk hx a _ fun vs H1 ws s1 f l a1 => f F H1 σ vs pd wk l a1 Q q
theorem one_arg {vs : List V} {w : W} (l : vs.length = [w].length) : ∃ v, vs = [v] := by
  cases vs with
  | nil => cases l
  | cons v r =>
    cases r with
    | nil => exact ⟨v, rfl⟩
    | cons _ _ => cases l
theorem two_args {vs : List V} {w w2 : W} (l : vs.length = [w, w2].length) : ∃ v u, vs = [v, u] := by
  cases vs with
  | nil => cases l
  | cons v r =>
    cases r with
    | nil => cases l
    | cons u r2 =>
      cases r2 with
      | nil => exact ⟨v, u, rfl⟩
      | cons _ _ => cases l
theorem wpe_len {ta : TA} (h : wpa C ta s fun ws s1 => ∃ w us, ws = [w] ∧ seqW s1 w = some us ∧ Φ (.d (.int (us.length : Int))) s1) :
    wpe C (tCB (rLenS C.K) ta) s Φ := wpe_cb (h.imp fun ws s1 ⟨w, us, e, hs, k⟩ F H σ vs pd wk l ⟨G, ps, a⟩ Q q => by
  subst e
  obtain ⟨v, rfl⟩ := one_arg l
  rcases seqW_cases hs with e1 | e1
  · obtain ⟨p, xs, ex, hp, r⟩ := a.lst a.top e1
    refine ⟨p, xs, by rw [ex], .inl (sq_of hp), ?_⟩
    rw [r.length]
    exact q _ _ _ _ k ⟨G, ps, a.pop.push (w := .d (.int _)) (.int _)⟩
  · obtain ⟨p, xs, ex, hp, r⟩ := a.tpl a.top e1
    refine ⟨p, xs, by rw [ex], .inr hp, ?_⟩
    rw [r.length]
    exact q _ _ _ _ k ⟨G, ps, a.pop.push (w := .d (.int _)) (.int _)⟩)
theorem rpl_all {P : Addr} {G : Hp} {ps : List Addr} {vs : List V} {ds : List PyData} (r : Paired (RpW C P G ps) vs (ds.map W.d)) : RpL C.K C.cl G vs ds := rpl_of r
/-- list(x) of a list or a tuple of data -/
theorem wpe_listOf {ta : TA} (h : wpa C ta s fun ws s1 => ∃ w ds, ws = [w] ∧ seqW s1 w = some (ds.map W.d) ∧ Φ (.d (.list ds)) s1) :
    wpe C (tCB (rListS C.K) ta) s Φ := wpe_cb (h.imp fun ws s1 ⟨w, ds, e, hs, k⟩ F H σ vs pd wk l ⟨G, ps, a⟩ Q q => by
  subst e
  obtain ⟨v, rfl⟩ := one_arg l
  rcases seqW_cases hs with e1 | e1
  · obtain ⟨p, xs, ex, hp, r⟩ := a.lst a.top e1
    refine ⟨p, xs, by rw [ex], .inl (sq_of hp), fun l hl => ?_⟩
    have n := nw_new (o := .lst xs) a.gh hl
    exact q _ _ _ _ k ⟨_, ps, (a.pop.step n).push (w := .d (.list ds)) (.lst upd_same ((rpl_of r).mono n.gg))⟩
  · obtain ⟨p, xs, ex, hp, r⟩ := a.tpl a.top e1
    refine ⟨p, xs, by rw [ex], .inr hp, fun l hl => ?_⟩
    have n := nw_new (o := .lst xs) a.gh hl
    exact q _ _ _ _ k ⟨_, ps, (a.pop.step n).push (w := .d (.list ds)) (.lst upd_same ((rpl_of r).mono n.gg))⟩)
/-- the same, to be changed -/
theorem wpe_listOfM {ta : TA} (h : wpa C ta s fun ws s1 => ∃ w us, ws = [w] ∧ seqW s1 w = some us ∧ Φ (.m s1.ms.length) (s1.new us)) :
    wpe C (tCB (rListS C.K) ta) s Φ := wpe_cb (h.imp fun ws s1 ⟨w, ds, e, hs, k⟩ F H σ vs pd wk l ⟨G, ps, a⟩ Q q => by
  subst e
  obtain ⟨v, rfl⟩ := one_arg l
  rcases seqW_cases hs with e1 | e1
  · obtain ⟨p, xs, ex, hp, r⟩ := a.lst a.top e1
    exact ⟨p, xs, by rw [ex], .inl (sq_of hp), fun l hl => q _ _ _ _ k ⟨G, _, a.pop.cell hl r⟩⟩
  · obtain ⟨p, xs, ex, hp, r⟩ := a.tpl a.top e1
    exact ⟨p, xs, by rw [ex], .inr hp, fun l hl => q _ _ _ _ k ⟨G, _, a.pop.cell hl r⟩⟩)
def rTupleS (K : PySem.W.Frag) : List V → Hp → VK → Prop := fun xs H Q => ∃ p ys, xs = [.ref p] ∧ ((SqL K H p ys ∧ ∀ l, H l = none → Q (.ref l) (upd H l (.tup ys))) ∨ (SqT K H p ys ∧ Q (.ref p) H))
theorem wpe_tupleOf {ta : TA} (h : wpa C ta s fun ws s1 => ∃ w ds, ws = [w] ∧ seqW s1 w = some (ds.map W.d) ∧ Φ (.d (.tuple ds)) s1) :
    wpe C (tCB (rTupleS C.K) ta) s Φ := wpe_cb (h.imp fun ws s1 ⟨w, ds, e, hs, k⟩ F H σ vs pd wk l ⟨G, ps, a⟩ Q q => by
  subst e
  obtain ⟨v, rfl⟩ := one_arg l
  rcases seqW_cases hs with e1 | e1
  · obtain ⟨p, xs, ex, hp, r⟩ := a.lst a.top e1
    refine ⟨p, xs, by rw [ex], .inl ⟨sq_of hp, fun l hl => ?_⟩⟩
    have n := nw_new (o := .tup xs) a.gh hl
    exact q _ _ _ _ k ⟨_, ps, (a.pop.step n).push (w := .d (.tuple ds)) (.tup (st_of upd_same) ((rpl_of r).mono n.gg))⟩
  · cases w with
    | d x =>
      cases x <;> simp [tupW] at e1
      have ed : ds = _ := (List.map_inj_right (fun _ _ h => W.d.inj h)).mp e1.symm
      subst ed
      have r : Rp C.K C.cl G v (.tuple _) := a.top
      cases r with
      | @tup p xs _ hp rl => exact ⟨p, xs, rfl, .inr ⟨ex_t a.gh hp, q _ _ _ _ k ⟨G, ps, a⟩⟩⟩
    | _ => simp [tupW] at e1)
theorem wpe_all {ta : TA} (h : wpa C ta s fun ws s1 => ∃ bs : List Bool, ws = [.d (.list (bs.map .bool))] ∧ Φ (.d (.bool (bs.all id))) s1) : wpe C (tCB (rAll C.K) ta) s Φ := wpe_cb (h.imp fun ws s1 ⟨bs, e, k⟩ F H σ vs pd wk l ⟨G, ps, a⟩ Q q => by
  subst e
  obtain ⟨v, rfl⟩ := one_arg l
  have r : Rp C.K C.cl G v (.list (bs.map .bool)) := a.top
  cases r with
  | @lst p xs _ hp rl =>
    have e := rl.bools
    subst e
    exact ⟨p, bs, rfl, sq_of (a.gh _ _ hp), q _ _ _ _ k ⟨G, ps, a.pop.push (w := .d (.bool _)) (.bl _)⟩⟩)
theorem wpe_any {ta : TA} (h : wpa C ta s fun ws s1 => ∃ bs : List Bool, ws = [.d (.list (bs.map .bool))] ∧ Φ (.d (.bool (bs.any id))) s1) : wpe C (tCB (rAny C.K) ta) s Φ := wpe_cb (h.imp fun ws s1 ⟨bs, e, k⟩ F H σ vs pd wk l ⟨G, ps, a⟩ Q q => by
  subst e
  obtain ⟨v, rfl⟩ := one_arg l
  have r : Rp C.K C.cl G v (.list (bs.map .bool)) := a.top
  cases r with
  | @lst p xs _ hp rl =>
    have e := rl.bools
    subst e
    exact ⟨p, bs, rfl, sq_of (a.gh _ _ hp), q _ _ _ _ k ⟨G, ps, a.pop.push (w := .d (.bool _)) (.bl _)⟩⟩)
theorem wpe_sum {ta : TA} (h : wpa C ta s fun ws s1 => ∃ ns : List Int, ws = [.d (.list (ns.map .int))] ∧ Φ (.d (.int ns.sum)) s1) : wpe C (tCB (rSum C.K) ta) s Φ := wpe_cb (h.imp fun ws s1 ⟨bs, e, k⟩ F H σ vs pd wk l ⟨G, ps, a⟩ Q q => by
  subst e
  obtain ⟨v, rfl⟩ := one_arg l
  have r : Rp C.K C.cl G v (.list (bs.map .int)) := a.top
  cases r with
  | @lst p xs _ hp rl =>
    have e := rl.ints
    subst e
    exact ⟨p, bs, rfl, sq_of (a.gh _ _ hp), q _ _ _ _ k ⟨G, ps, a.pop.push (w := .d (.int _)) (.int _)⟩⟩)
theorem wpe_max {ta : TA} (h : wpa C ta s fun ws s1 => ∃ ns : List Int, ws = [.d (.list (ns.map .int))] ∧ 0 < ns.length ∧ ∀ m, m ∈ ns → (∀ y ∈ ns, y ≤ m) → Φ (.d (.int m)) s1) : wpe C (tCB (rMax C.K) ta) s Φ := wpe_cb (h.imp fun ws s1 ⟨bs, e, h0, k⟩ F H σ vs pd wk l ⟨G, ps, a⟩ Q q => by
  subst e
  obtain ⟨v, rfl⟩ := one_arg l
  have r : Rp C.K C.cl G v (.list (bs.map .int)) := a.top
  cases r with
  | @lst p xs _ hp rl =>
    have e := rl.ints
    subst e
    exact ⟨p, bs, rfl, sq_of (a.gh _ _ hp), h0, fun m h1 h2 => q _ _ _ _ (k m h1 h2) ⟨G, ps, a.pop.push (w := .d (.int _)) (.int _)⟩⟩)
theorem wpe_sortedI {ta : TA} (h : wpa C ta s fun ws s1 => ∃ ns : List Int, ws = [.d (.list (ns.map .int))] ∧ ∀ ms : List Int, ms.Perm ns → ms.Pairwise (· ≤ ·) → Φ (.d (.list (ms.map .int))) s1) : wpe C (tCB (rSortedI C.K) ta) s Φ := wpe_cb (h.imp fun ws s1 ⟨bs, e, k⟩ F H σ vs pd wk l ⟨G, ps, a⟩ Q q => by
  subst e
  obtain ⟨v, rfl⟩ := one_arg l
  have r : Rp C.K C.cl G v (.list (bs.map .int)) := a.top
  cases r with
  | @lst p xs _ hp rl =>
    have e := rl.ints
    subst e
    refine ⟨p, bs, rfl, sq_of (a.gh _ _ hp), fun ms l h1 h2 hl => ?_⟩
    have n := nw_new (o := .lst (ms.map V.int)) a.gh hl
    exact q _ _ _ _ (k ms h1 h2) ⟨_, ps, (a.pop.step n).push (w := .d (.list _)) (.lst upd_same (rpl_ints ms))⟩)
def rIntS : List V → Hp → VK → Prop := fun xs H Q => (∃ i, xs = [.int i] ∧ Q (.int i) H) ∨ ∃ k, xs = [.bl k] ∧ Q (.int (if k then 1 else 0)) H
theorem wpe_intOf {ta : TA} (h : wpa C ta s fun ws s1 => ∃ i : Int, ws = [.d (.int i)] ∧ Φ (.d (.int i)) s1) : wpe C (tCB rIntS ta) s Φ := wpe_cb (h.imp fun ws s1 ⟨i, e, k⟩ F H σ vs pd wk l ⟨G, ps, a⟩ Q q => by
  subst e
  obtain ⟨v, rfl⟩ := one_arg l
  exact .inl ⟨i, by rw [rp_int a.top], q _ _ _ _ k ⟨G, ps, a.pop.push (w := .d (.int _)) (.int _)⟩⟩)
/-- the type of data -/
def tyD : PyData → Option String
  | .none => some "NoneType"
  | .bool _ => some "bool"
  | .int _ => some "int"
  | .str _ => some "str"
  | .list _ => some "list"
  | .tuple _ => some "tuple"
  | .dict _ => none
theorem rp_ty {K : PySem.W.Frag} {cl : Str → Option Addr} {G H : Hp} (e : Ex G H) {v : V} {d : PyData} {t : String} (r : Rp K cl G v d) (h : tyD d = some t) : TyX K H v (.type t) := by
  cases r with
  | non => cases h; exact .base .non
  | bl b => cases h; exact .base (.bl b)
  | int b => cases h; exact .base (.int b)
  | str b => cases h; exact .base (.str b)
  | lst h1 h2 => cases h; exact .base (.lst (e _ _ h1))
  | tup h1 h2 =>
    cases h
    rcases h1 with (h1 | ⟨o, h1⟩) | ⟨o, its, n, hk, hc, _⟩
    · exact .base (.tup (e _ _ h1))
    · exact .fTuple (e _ _ h1)
    · exact .kTuple hk hc
  | ins _ _ _ => cases h
  | dic _ _ => cases h
/-- isinstance(x, T), T a built-in class -/
theorem wpe_isi {ta : TA} (h : wpa C ta s fun ws s1 => ∃ d T t b, ws = [.d d, .v (.ty T)] ∧ tyD d = some t ∧ kitB t T = some b ∧ Φ (.d (.bool b)) s1) : wpe C (tCB (rIsi C.K) ta) s Φ := wpe_cb (h.imp fun ws s1 ⟨d, T, t, b, e, ht, hb, k⟩ F H σ vs pd wk l ⟨G, ps, a⟩ Q q => by
  subst e
  obtain ⟨v, u, rfl⟩ := two_args l
  have e2 : u = .ty T := a.pop.top
  subst e2
  exact ⟨v, _, _, _, b, rfl, .ty T, rp_ty a.gh a.top ht, kit_ty hb, q _ _ _ _ k ⟨G, ps, a.pop.pop.push (w := .d (.bool b)) (.bl b)⟩⟩)
/-- isinstance(x, (T1, T2)) -/
theorem wpe_isi2 {T1 T2 : String} (h : wpe C ta s fun w s1 => ∃ d t b1 b2, w = .d d ∧ tyD d = some t ∧ kitB t T1 = some b1 ∧ kitB t T2 = some b2 ∧ Φ (.d (.bool (b1 || b2))) s1) :
    wpe C (tCB (rIsiT C.K) (tCons ta (tCons (tTup (tCons (tC (.ty T1)) (tCons (tC (.ty T2)) tNil))) tNil))) s Φ := fun F H σ pd wk hx a Q q =>
  h F H σ pd wk hx a _ fun v H1 w s1 ⟨d, t, b1, b2, e, ht, h1, h2, k⟩ ⟨G, ps, a1⟩ => by
    subst e
    refine ⟨sz_of (show 2 ≤ 100000 by decide), fun p hp => ?_⟩
    have n := nw_raw (o := .tup [.ty T1, .ty T2]) a1.gh hp
    refine ⟨v, p, [.ty T1, .ty T2], .type t, [.type T1, .type T2], b1 || b2, rfl, upd_same, .cons (.ty T1) (.cons (.ty T2) .nil), rp_ty (a1.step n).gh a1.top ht, ?_, q _ _ _ _ k ⟨G, ps, (a1.pop.step n).push (w := .d (.bool _)) (.bl _)⟩⟩
    refine kitAny_cons (kit_ty h1) (r := b1 || b2) (fun e1 => ?_) (fun e1 => by rw [e1]; rfl)
    rw [e1]
    refine kitAny_cons (kit_ty h2) (r := false || b2) (fun e2 => ?_) (fun e2 => by rw [e2]; rfl)
    rw [e2]
    rfl
/-- xs.count(k) of ints -/
theorem wpe_count {tk : TA} (h : wpe C ta s fun w1 s1 => ∃ ns : List Int, w1 = .d (.list (ns.map .int)) ∧ wpa C tk s1 fun ws s2 => ∃ k : Int, ws = [.d (.int k)] ∧ Φ (.d (.int (ns.count k : Nat))) s2) : wpe C (tBM C.K "list" (rCntI C.K) ta tk) s Φ := fun F H σ pd wk hx a Q q =>
  h F H σ pd wk hx a _ fun v H1 w s1 ⟨ns, e1, h1⟩ ⟨G0, ps0, a1⟩ => by
    subst e1
    have r : Rp C.K C.cl G0 v (.list (ns.map .int)) := a1.top
    cases r with
    | @lst p xs _ hp rl =>
      refine ⟨.inl ⟨rfl, _, sq_of (a1.gh _ _ hp)⟩, h1 F H1 σ _ wk hx ⟨G0, ps0, a1⟩ _ fun vs H2 ws s2 ⟨k, e2, kk⟩ l ⟨G, ps, a2⟩ => ?_⟩
      subst e2
      obtain ⟨u, rfl⟩ := one_arg l
      have r2 : Rp C.K C.cl G (.ref p) (.list (ns.map .int)) := a2.pop.top
      cases r2 with
      | @lst _ ys _ hp2 rl2 =>
        have e := rl2.ints
        subst e
        exact ⟨p, ns, k, rfl, by rw [rp_int a2.top], sq_of (a2.gh _ _ hp2), q _ _ _ _ kk ⟨G, ps, a2.pop.pop.push (w := .d (.int _)) (.int _)⟩⟩
/-- xs.pop() as a value -/
theorem wpe_pop (h : wpe C ta s fun w s1 => ∃ k us u, w = .m k ∧ s1.ms[k]? = some (some (us ++ [u])) ∧ Φ u (s1.put k us)) : wpe C (tBM0 C.K "list" rPop ta) s Φ := fun F H σ pd wk hx a Q q =>
  h F H σ pd wk hx a _ fun v H1 w s1 ⟨k, us, u, e, hm, kk⟩ ⟨G, ps, a1⟩ => by
    subst e
    obtain ⟨p, hp, ev⟩ := a1.top
    subst ev
    obtain ⟨_, _, vs, eh, r⟩ := a1.ms k p _ hp hm
    refine ⟨.inl ⟨rfl, _, sq_of eh⟩, ?_⟩
    have hl : vs.length = us.length + 1 := by
      rw [r.length, List.length_append]
      rfl
    obtain ⟨y, hy, ry⟩ := Paired.getR r (i := us.length) (b := u) (by rw [List.getElem?_append_right (Nat.le_refl _)]; simp)
    have r2 : Paired (RpW C F.pn.P G ps) vs.dropLast us := by
      have : ∀ {l : List V} {m : List W}, Paired (RpW C F.pn.P G ps) l (m ++ [u]) → Paired (RpW C F.pn.P G ps) l.dropLast m := by
        intro l m
        induction m generalizing l with
        | nil =>
          intro h
          cases h with
          | cons h r =>
            cases r
            exact .nil
        | cons x m ih =>
          intro h
          cases h with
          | @cons a _ l' _ h r =>
            cases l' with
            | nil =>
              cases m <;> cases r
            | cons b l'' =>
              rw [List.dropLast_cons_cons]
              exact .cons h (ih r)
      exact this r
    refine ⟨p, vs, y, rfl, rfl, eh, by rw [hl]; exact hy, q _ _ _ _ kk ⟨G, ps, ?_⟩⟩
    exact (a1.pop.put hp hm r2).push ry
end
end DL
set_option Elab.async false
set_option linter.all false
set_option maxRecDepth 100000
set_option maxHeartbeats 2000000
namespace DL
open PySem L2 Evl

/-! ### 6. promises and calls -/
/-- what a def of data does: W ds Φ Ψ: of the arguments ds it gives data of which Φ, or raises an error of which Ψ -/
abbrev Wf := List PyData → (PyData → Prop) → (Er → Prop) → Prop
def spP (K : PySem.W.Frag) (cl : Str → Option Addr) (Wd : Wf) : Sp := fun vs H Q E => ∃ (G : Hp) (ds : List PyData) (Φ : PyData → Prop) (Ψ : Er → Prop), Ex G H ∧ RpL K cl G vs ds ∧ Wd ds Φ Ψ ∧
  (∀ d v G2 H2, Φ d → Nw G H G2 H2 → Rp K cl G2 v d → Q v H2) ∧
  (∀ er, Ψ er → ∀ (Ca dx : Addr) (fs : List (Str × V)) (G2 H2 : Hp), cl er.c = some Ca → Nw G H G2 H2 → H2 dx = some (.xd fs) → H dx = none → RpF K cl G2 fs er.fs → E (.ref Ca) (some dx) H2)
/-- the same, handed the pen first; c: how much of the pen is used -/
abbrev WfN := List PyData → Nat → (PyData → Nat → Prop) → Prop
def spN (K : PySem.W.Frag) (cl : Str → Option Addr) (pk : Pn → Prop) (Wd : WfN) : Sp := fun vs H Q _ => ∃ (N : Pn) (us : List V) (G : Hp) (ds : List PyData) (c : Nat) (Φ : PyData → Nat → Prop), vs = .ref N.P :: us ∧ pk N ∧ Ex G H ∧ (∀ a, N.X a → G a = none) ∧ RpL K cl G us ds ∧ N.pen c G H ∧ Wd ds c Φ ∧
  (∀ d c' v G2 H2, Φ d c' → Ex G G2 → Ex G2 H2 → (∀ a o, ¬ N.X a → H a = some o → H2 a = some o) → (∀ a, H a ≠ none → G a = none → G2 a = none) → N.pen c' G2 H2 → Rp K cl G2 v d → Q v H2)
section
variable {C : Cn} {F : Fr} {G G2 : Hp} {ps : List Addr} {H H2 : Hp} {σ : L2.St} {s : S} {pd : List (V × W)} {wk : List (Hp → Prop)} {v : V} {w : W}
/-- behind a call that may have changed the pen -/
theorem AtG.stepN {c' : Nat} (a : AtG C F G ps H σ s pd wk) (hg : Ex G G2) (h2 : Ex G2 H2) (hh : ∀ b o, ¬ F.pn.X b → H b = some o → H2 b = some o) (fr : ∀ b, H b ≠ none → G b = none → G2 b = none) (pn : F.pn.pen c' G2 H2) :
    AtG C F G2 ps H2 σ { s with c := c' } pd wk where
  gh := h2
  g0 := a.g0.trans hg
  h0 := fun b o hx e => hh b o hx (a.h0 b o hx e)
  fr := fun b h g => fr b (a.hne h) (a.fr b h g)
  len := a.len
  env := fun i w h1 h2 => by
    obtain ⟨v, e, r⟩ := a.env i w h1 h2
    exact ⟨v, e, r.mono hg fun _ _ h => h⟩
  psn := a.psn
  psl := a.psl
  ms := fun k p ws h1 h2 => by
    obtain ⟨e1, e2, vs, e3, r⟩ := a.ms k p ws h1 h2
    exact ⟨e1, fr p (by rw [e3]; exact fun z => nomatch z) e2, vs, hh p _ (fun hx => F.xh p hx e1) e3, L2.Paired.mapP r fun _ _ h => RpW.mono hg (fun _ _ h => h) h⟩
  pend := fun q hq => (a.pend q hq).mono hg fun _ _ h => h
  wkm := fun q hq => ⟨(a.wkm q hq).1, (a.wkm q hq).1 _ _ hg (a.wkm q hq).2⟩
  pn := pn
  psh := fun p hp => by
    refine ⟨?_, (a.psh p hp).2⟩
    have h := (a.psh p hp).1
    cases e : H p with
    | none => exact absurd e h
    | some o =>
      rw [hh p o (fun hx => F.xh p hx (a.psh p hp).2) e]
      exact fun z => nomatch z
  pk := a.pk
end
section
variable {C : Cn} {s : S} {Φ : W → S → Prop} {ta tb te tc : TE} {w : W} {d : PyData}
theorem exok_call {F : Fr} {G : Hp} {ps : List Addr} {H : Hp} {σ : L2.St} {pd : List (V × W)} {wk : List (Hp → Prop)} (hx : EXok C F) (a : AtG C F G ps H σ s pd wk) : ∀ er, C.Psi er → ∀ (Ca dx : Addr) (fs : List (Str × V)) (G2 H2 : Hp), C.cl er.c = some Ca → Nw G H G2 H2 → H2 dx = some (.xd fs) → H dx = none → RpF C.K C.cl G2 fs er.fs → C.EX (.ref Ca) (some dx) H2 :=
  fun er he Ca dx fs G2 H2 hc n hd hn hf => hx er he Ca dx fs G2 H2 hc (a.g0.trans n.gg) n.gh (fun b o hb e => n.hh b o (a.h0 b o hb e)) (fun b h g => n.fr b (a.hne h) (a.fr b h g)) hd (by
    cases e : F.H0 dx with
    | none => rfl
    | some o => exact absurd hn (a.hne (by rw [e]; exact fun z => nomatch z))) hf
/-- a call of a def of data; what it raises goes on -/
theorem wpe_call {Wd : Wf} {ta : TA} (h : wpa C ta s fun ws s1 => ∃ ds : List PyData, ws = ds.map W.d ∧ Wd ds (fun d => Φ (.d d) s1) C.Psi) : wpe C (tCall (spP C.K C.cl Wd) [] C.EX ta) s Φ := fun F H σ pd wk hx a Q q =>
  h F H σ pd wk hx a _ fun vs H1 ws s1 ⟨ds, e, hw⟩ l ⟨G, ps, a1⟩ => by
    subst e
    rw [List.append_nil]
    exact ⟨G, ds, _, _, a1.gh, rpl_of (a1.args l), hw, fun d v G2 H2 f n r => q _ _ _ _ f ⟨G2, ps, (a1.rest.step n).push (w := .d d) r⟩, exok_call hx a1⟩
/-- a call that raises nothing -/
theorem wpe_call0 {Wd : Wf} {E : XK} {ta : TA} (h : wpa C ta s fun ws s1 => ∃ ds : List PyData, ws = ds.map W.d ∧ Wd ds (fun d => Φ (.d d) s1) (fun _ => False)) : wpe C (tCall (spP C.K C.cl Wd) [] E ta) s Φ := fun F H σ pd wk hx a Q q =>
  h F H σ pd wk hx a _ fun vs H1 ws s1 ⟨ds, e, hw⟩ l ⟨G, ps, a1⟩ => by
    subst e
    rw [List.append_nil]
    exact ⟨G, ds, _, _, a1.gh, rpl_of (a1.args l), hw, fun d v G2 H2 f n r => q _ _ _ _ f ⟨G2, ps, (a1.rest.step n).push (w := .d d) r⟩, fun _ z => z.elim⟩
/-- a call that is handed the pen -/
theorem wpe_callN {Wd : WfN} {E : XK} {ta : TA} (h : wpa C ta s fun ws s1 => ∃ ds : List PyData, ws = .pen :: ds.map W.d ∧ Wd ds s1.c (fun d c' => Φ (.d d) { s1 with c := c' })) : wpe C (tCall (spN C.K C.cl C.pk Wd) [] E ta) s Φ := fun F H σ pd wk hx a Q q =>
  h F H σ pd wk hx a _ fun vs H1 ws s1 ⟨ds, e, hw⟩ l ⟨G, ps, a1⟩ => by
    subst e
    rw [List.append_nil]
    have pr := a1.args l
    cases pr with
    | @cons v0 _ us _ r0 rr =>
      have e0 : v0 = .ref F.pn.P := r0
      subst e0
      refine ⟨F.pn, us, G, ds, s1.c, _, rfl, a1.pk, a1.gh, fun b hb => a1.x0 hb (F.xh b hb), rpl_of rr, a1.pn, hw, fun d c' v G2 H2 f hg h2 hh fr pn r => q _ _ _ _ f ⟨G2, ps, (a1.rest.stepN hg h2 hh fr pn).push (w := .d d) r⟩⟩

/-! ### 7. statements -/
variable {D : DE} {t u : TS} {g : TG}
theorem wps_next (k : D.nx s) : wps C tNext s D := fun F H σ wk hx a E o => o.nx σ H s k a
theorem wps_brk (k : D.bk s) : wps C tBreak s D := fun F H σ wk hx a E o => o.bk σ H s k a
theorem wps_cont (k : D.ct s) : wps C tCont s D := fun F H σ wk hx a E o => o.ct σ H s k a
theorem wps_seq (h : wps C t s { D with nx := fun s1 => wps C u s1 D }) : wps C (tSeq t u) s D := fun F H σ wk hx a E o =>
  h F H σ wk hx a _ ⟨fun σ2 H2 s2 f a2 => f F H2 σ2 wk hx a2 E o, o.rt, o.bk, o.ct⟩
theorem wps_asg (h : wpe C te s fun w s1 => wpg C g w s1 D.nx) : wps C (tAsg te g) s D := fun F H σ wk hx a E o =>
  h F H σ [] wk hx a _ fun v H1 w s1 f a1 => f F H1 σ v [] wk hx a1 _ fun σ2 H2 s2 f2 a2 => o.nx σ2 H2 s2 f2 a2
theorem wpg_name {i : Nat} {Φ : S → Prop} (k : Φ (s.set i w)) : wpg C (gName i) w s Φ := fun F H σ v pd wk hx ⟨G, ps, a⟩ Q q => q _ _ _ k ⟨G, ps, a.set⟩
/-- x = e -/
theorem wps_set {i : Nat} (h : wpe C te s fun w s1 => D.nx (s1.set i w)) : wps C (tAsg te (gName i)) s D := wps_asg (h.imp fun _ _ k => wpg_name k)
theorem wps_ret (h : wpe C te s fun w s1 => D.rt w s1) : wps C (tRet te) s D := fun F H σ wk hx a E o =>
  h F H σ [] wk hx a _ fun v H1 w s1 f a1 => o.rt v H1 σ w s1 f a1
theorem wps_retN (k : D.rt (.d .none) s) : wps C tRetN s D := fun F H σ wk hx ⟨G, ps, a⟩ E o => o.rt .non H σ _ s k ⟨G, ps, a.push (w := .d .none) .non⟩
theorem wps_drop (h : wpe C te s fun _ s1 => D.nx s1) : wps C (tDrop te) s D := fun F H σ wk hx a E o =>
  h F H σ [] wk hx a _ fun v H1 w s1 f ⟨G, ps, a1⟩ => o.nx σ H1 s1 f ⟨G, ps, a1.pop⟩
theorem wps_if {tt : TT} (h : wpt C tt s fun b s1 => (b = true → wps C t s1 D) ∧ (b = false → wps C u s1 D)) : wps C (tIfS tt t u) s D := fun F H σ wk hx a E o =>
  h F H σ [] wk hx a _ fun b H1 s1 ⟨k1, k2⟩ a1 => by
    cases b with
    | true =>
      show t E σ H1
      exact k1 rfl F H1 σ wk hx a1 E o
    | false =>
      show u E σ H1
      exact k2 rfl F H1 σ wk hx a1 E o
theorem wps_par {i j : Nat} {ta : TA} (h : wpa C ta s fun ws s1 => ∃ w1 w2, ws = [w1, w2] ∧ D.nx ((s1.set i w1).set j w2)) : wps C (tPar i j ta) s D := fun F H σ wk hx a E o =>
  h F H σ [] wk hx a _ fun vs H1 ws s1 ⟨w1, w2, e, k⟩ l ⟨G, ps, a1⟩ => by
    subst e
    obtain ⟨v1, v2, rfl⟩ := two_args l
    exact ⟨v1, v2, rfl, o.nx _ _ _ k ⟨G, ps, (AtG.set (v := v2) (w := w2) (AtG.set (v := v1) (w := w1) a1))⟩⟩
/-- xs.append(e) -/
theorem wps_app (h : wpe C ta s fun w1 s1 => ∃ k us, w1 = .m k ∧ s1.ms[k]? = some (some us) ∧ wpe C te s1 fun w2 s2 => ∃ us2, s2.ms[k]? = some (some us2) ∧ us2.length < 100000 ∧ D.nx (s2.put k (us2 ++ [w2]))) :
    wps C (tDrop (tBM C.K "list" rAppend ta (tCons te tNil))) s D := fun F H σ wk hx a E o =>
  h F H σ [] wk hx a _ fun v H1 w s1 ⟨k, us, e, hm, f⟩ ⟨G, ps, a1⟩ => by
    subst e
    obtain ⟨p, hp, ev⟩ := a1.top
    subst ev
    obtain ⟨_, _, vs, eh, r⟩ := a1.ms k p _ hp hm
    refine ⟨.inl ⟨rfl, _, sq_of eh⟩, f F H1 σ _ wk hx ⟨G, ps, a1⟩ _ fun y H2 w2 s2 ⟨us2, hm2, hl, k2⟩ ⟨G2, ps2, a2⟩ => ?_⟩
    obtain ⟨p2, hp2, ev2⟩ := a2.pop.top
    cases ev2
    obtain ⟨_, _, vs2, eh2, r2⟩ := a2.ms k p _ hp2 hm2
    refine ⟨p, vs2, y, rfl, rfl, eh2, sz_lt (by rw [r2.length]; exact hl), o.nx _ _ _ k2 ⟨G2, ps2, ?_⟩⟩
    exact a2.pop.pop.put hp2 hm2 (PySem.Paired.snoc r2 a2.top)
/-- o[i] = the value at hand -/
theorem wpg_sub {Φ : S → Prop} (h : wpe C ta s fun w1 s1 => wpe C tb s1 fun w2 s2 => ∃ k us i j, w1 = .m k ∧ w2 = .d (.int i) ∧ s2.ms[k]? = some (some us) ∧ ixN us.length i = some j ∧ Φ (s2.put k (us.set j w))) : wpg C (gSub ta tb rSetL) w s Φ := fun F H σ v pd wk hx a Q q =>
  h F H σ _ wk hx a _ fun x H1 w1 s1 f1 a1 => f1 F H1 σ _ wk hx a1 _ fun y H2 w2 s2 ⟨k, us, i, j, e1, e2, hm, hj, kk⟩ ⟨G, ps, a2⟩ => by
    subst e1 e2
    obtain ⟨p, hp, ev⟩ := a2.pop.top
    subst ev
    obtain ⟨_, _, vs, eh, r⟩ := a2.ms k p _ hp hm
    refine ⟨p, vs, i, j, rfl, rp_int a2.top, eh, by rw [r.length]; exact hj, q _ _ _ kk ⟨G, ps, ?_⟩⟩
    have rv : RpW C F.pn.P G ps v w := a2.pop.pop.top
    have rs : ∀ {l : List V} {m : List W} (j : Nat), Paired (RpW C F.pn.P G ps) l m → Paired (RpW C F.pn.P G ps) (l.set j v) (m.set j w) := by
      intro l m j h
      induction h generalizing j with
      | nil => exact .nil
      | cons h r ih =>
        cases j with
        | zero => exact .cons rv r
        | succ j => exact .cons h (ih j)
    exact a2.pop.pop.pop.put hp hm (rs j r)
theorem wpg_nil {K : PySem.W.Frag} : True := trivial
/-- targets of a tuple: names -/
theorem wpg_tup2 {i j : Nat} {d1 d2 : PyData} {Φ : S → Prop} (k : Φ ((s.set i (.d d1)).set j (.d d2))) : wpg C (gTup C.K 2 (gCons (gName i) (gCons (gName j) gNil))) (.d (.tuple [d1, d2])) s Φ := fun F H σ v pd wk hx ⟨G, ps, a⟩ Q q => by
  have r : Rp C.K C.cl G v (.tuple [d1, d2]) := a.top
  cases r with
  | @tup p xs _ hp rl =>
    cases rl with
    | @cons v1 _ _ _ r1 rl =>
      cases rl with
      | @cons v2 _ _ _ r2 rl =>
        cases rl
        exact ⟨p, [v1, v2], rfl, ex_t a.gh hp, rfl, v1, _, rfl, v2, _, rfl, rfl, q _ _ _ k ⟨G, ps, AtG.set (v := v2) (w := .d d2) (AtG.set (v := v1) (w := .d d1) ((a.pop.push (w := .d d2) r2).push (w := .d d1) r1))⟩⟩
theorem wpg_tup3 {i j l : Nat} {d1 d2 d3 : PyData} {Φ : S → Prop} (k : Φ (((s.set i (.d d1)).set j (.d d2)).set l (.d d3))) : wpg C (gTup C.K 3 (gCons (gName i) (gCons (gName j) (gCons (gName l) gNil)))) (.d (.tuple [d1, d2, d3])) s Φ := fun F H σ v pd wk hx ⟨G, ps, a⟩ Q q => by
  have r : Rp C.K C.cl G v (.tuple [d1, d2, d3]) := a.top
  cases r with
  | @tup p xs _ hp rl =>
    cases rl with
    | @cons v1 _ _ _ r1 rl =>
      cases rl with
      | @cons v2 _ _ _ r2 rl =>
        cases rl with
        | @cons v3 _ _ _ r3 rl =>
          cases rl
          exact ⟨p, [v1, v2, v3], rfl, ex_t a.gh hp, rfl, v1, _, rfl, v2, _, rfl, v3, _, rfl, rfl, q _ _ _ k ⟨G, ps, AtG.set (v := v3) (w := .d d3) (AtG.set (v := v2) (w := .d d2) (AtG.set (v := v1) (w := .d d1) (((a.pop.push (w := .d d3) r3).push (w := .d d2) r2).push (w := .d d1) r1)))⟩⟩
/-- a list is frozen -/
theorem wps_frz {ds : List PyData} (k : Nat) (hm : s.ms[k]? = some (some (ds.map W.d))) (h : wps C t (s.frz k ds) D) : wps C t s D := fun F H σ wk hx ⟨G, ps, a⟩ E o => by
  obtain ⟨G', a'⟩ := a.freeze hm
  exact h F H σ wk hx ⟨G', ps, a'⟩ E o

/-! ### 8. what is walked -/
def WalkD (K : PySem.W.Frag) (cl : Str → Option Addr) (J : It) (items : List PyData) (G : Hp) : Prop := ∀ (i : Nat) (G3 H : Hp), Ex G G3 → Ex G3 H →
  (∀ d, items[i]? = some d → J.go i H ∧ ∀ x H', J.yld i H x H' → ∃ G', Nw G3 H G' H' ∧ Rp K cl G' x d) ∧ (items.length ≤ i → J.stop i H)
theorem WalkD.mono {K : PySem.W.Frag} {cl : Str → Option Addr} {J : It} {items : List PyData} : Mono (WalkD K cl J items) := fun G G' e h i G3 H e1 e2 => h i G3 H (e.trans e1) e2
def wpi (C : Cn) (wi : TI) (s : S) (Φ : List PyData → S → Prop) : Prop := ∀ (F : Fr) (H : Hp) (σ : L2.St) (pd : List (V × W)) (wk : List (Hp → Prop)), EXok C F → At C F H σ s pd wk → ∀ R : It → Hp → Prop,
  (∀ J H2 items s2, Φ items s2 → At C F H2 σ s2 pd (WalkD C.K C.cl J items :: wk) → R J H2) → wi σ H R
theorem frzL {K : PySem.W.Frag} {H : Hp} {a : Addr} {xs ys : List V} (h : H a = some (.lst xs)) (q : SqL K H a ys) (hK : K.lookup a = none) : ys = xs := by
  rcases q with (q | ⟨o, q⟩) | ⟨o, its, n, hk, _⟩
  · rw [h] at q
    cases q
    rfl
  · rw [h] at q
    cases q
  · rw [hK] at hk
    cases hk
end
end DL
set_option Elab.async false
set_option linter.all false
set_option maxRecDepth 100000
set_option maxHeartbeats 2000000
namespace DL
open PySem L2 Evl
section
variable {C : Cn} {s : S} {ta tb te tc : TE} {w : W} {d : PyData} {D : DE} {t u : TS} {g : TG} {K : PySem.W.Frag} {cl : Str → Option Addr}
/-! ### 9. the iterators -/
theorem walk_list {a : Addr} {items : List PyData} {G : Hp} (r : Rp K cl G (.ref a) (.list items)) : WalkD K cl (Itl K a) items G := by
  cases r with
  | @lst _ vs _ ha rl =>
    intro i G3 H e1 e2
    have hq : SqL K H a vs := sq_of (e2 _ _ (e1 _ _ ha))
    refine ⟨fun d hd => ?_, fun hl => ⟨vs, hq, by rw [rl.length]; exact hl⟩⟩
    obtain ⟨v, hv, rv⟩ := rl.get hd
    refine ⟨⟨vs, v, hq, hv⟩, fun x H' ⟨eH, hx⟩ => ?_⟩
    subst eH
    have := hx vs hq
    rw [hv] at this
    cases this
    exact ⟨G3, Nw.refl e2, rv.mono e1⟩
theorem walk_tup {a : Addr} {items : List PyData} {G : Hp} (r : Rp K cl G (.ref a) (.tuple items)) : WalkD K cl (Itt K a) items G := by
  cases r with
  | @tup _ vs _ ha rl =>
    intro i G3 H e1 e2
    have hq : SqT K H a vs := ex_t e2 (ex_t e1 ha)
    refine ⟨fun d hd => ?_, fun hl => ⟨vs, hq, by rw [rl.length]; exact hl⟩⟩
    obtain ⟨v, hv, rv⟩ := rl.get hd
    refine ⟨⟨vs, v, hq, hv⟩, fun x H' ⟨eH, hx⟩ => ?_⟩
    subst eH
    have := hx vs hq
    rw [hv] at this
    cases this
    exact ⟨G3, Nw.refl e2, rv.mono e1⟩
def rng (lo : Int) (n : Nat) : List PyData := (List.range n).map fun (i : Nat) => PyData.int (lo + (i : Int))
theorem rng_len (lo : Int) (n : Nat) : (rng lo n).length = n := by simp [rng]
theorem rng_get {lo : Int} {n i : Nat} {d : PyData} (h : (rng lo n)[i]? = some d) : i < n ∧ d = .int (lo + (i : Int)) := by
  have hl := (List.getElem?_eq_some_iff.mp h).1
  rw [rng_len] at hl
  unfold rng at h
  rw [List.getElem?_map, List.getElem?_range hl] at h
  exact ⟨hl, (Option.some.inj h).symm⟩
theorem walk_rng {lo : Int} {n : Nat} {G : Hp} : WalkD K cl (Itr lo n) (rng lo n) G := by
  intro i G3 H e1 e2
  refine ⟨fun d hd => ?_, fun hl => by rw [rng_len] at hl; exact hl⟩
  obtain ⟨hl, rfl⟩ := rng_get hd
  refine ⟨hl, fun x H' ⟨eH, hx⟩ => ?_⟩
  subst eH hx
  exact ⟨G3, Nw.refl e2, .int _⟩
def rngC (lo c : Int) (n : Nat) : List PyData := (List.range n).map fun (i : Nat) => PyData.int (lo + (i : Int) * c)
theorem walk_rngC {lo c : Int} {n : Nat} {G : Hp} : WalkD K cl (Itc lo c n) (rngC lo c n) G := by
  intro i G3 H e1 e2
  have hlen : (rngC lo c n).length = n := by simp [rngC]
  refine ⟨fun d hd => ?_, fun hl => by rw [hlen] at hl; exact hl⟩
  have hl := (List.getElem?_eq_some_iff.mp hd).1
  rw [hlen] at hl
  unfold rngC at hd
  rw [List.getElem?_map, List.getElem?_range hl] at hd
  have hd := (Option.some.inj hd).symm
  subst hd
  refine ⟨hl, fun x H' ⟨eH, hx⟩ => ?_⟩
  subst eH hx
  exact ⟨G3, Nw.refl e2, .int _⟩
def enumD (items : List PyData) : List PyData := items.zipIdx.map fun p => .tuple [.int (p.2 : Int), p.1]
theorem enumD_len (items : List PyData) : (enumD items).length = items.length := by simp [enumD]
theorem enumD_get {items : List PyData} {i : Nat} {d : PyData} (h : (enumD items)[i]? = some d) : ∃ x, items[i]? = some x ∧ d = .tuple [.int (i : Int), x] := by
  unfold enumD at h
  rw [List.getElem?_map, List.getElem?_zipIdx] at h
  cases e : items[i]? with
  | none =>
    rw [e] at h
    cases h
  | some x =>
    rw [e] at h
    simp at h
    exact ⟨x, rfl, h.symm⟩
theorem walk_enum {a : Addr} {items : List PyData} {G : Hp} (r : Rp K cl G (.ref a) (.list items)) : WalkD K cl (Ite K a) (enumD items) G := by
  cases r with
  | @lst _ vs _ ha rl =>
    intro i G3 H e1 e2
    have hq : SqL K H a vs := sq_of (e2 _ _ (e1 _ _ ha))
    refine ⟨fun d hd => ?_, fun hl => ⟨vs, hq, by rw [rl.length]; rw [enumD_len] at hl; exact hl⟩⟩
    obtain ⟨z, hz, rfl⟩ := enumD_get hd
    obtain ⟨v, hv, rv⟩ := rl.get hz
    refine ⟨⟨vs, v, hq, hv⟩, fun x H' ⟨T, y, ex, hT, eH, hy⟩ => ?_⟩
    subst eH ex
    have := hy vs hq
    rw [hv] at this
    cases this
    have n := nw_new (o := .tup [.int (i : Nat), v]) e2 hT
    exact ⟨_, n, .tup (st_of upd_same) (.cons (.int _) (.cons ((rv.mono e1).mono n.gg) .nil))⟩
def zipD (xs ys : List PyData) : List PyData := (xs.zip ys).map fun p => .tuple [p.1, p.2]
theorem zipD_get {xs ys : List PyData} {i : Nat} {d : PyData} (h : (zipD xs ys)[i]? = some d) : ∃ x y, xs[i]? = some x ∧ ys[i]? = some y ∧ d = .tuple [x, y] := by
  unfold zipD at h
  rw [List.getElem?_map] at h
  cases e : (xs.zip ys)[i]? with
  | none =>
    rw [e] at h
    cases h
  | some p =>
    rw [e] at h
    obtain ⟨x, y⟩ := p
    have := List.getElem?_zip_eq_some.mp e
    exact ⟨x, y, this.1, this.2, (Option.some.inj h).symm⟩
theorem walk_zip {a b : Addr} {xs ys : List PyData} {G : Hp} (r : Rp K cl G (.ref a) (.list xs)) (r' : Rp K cl G (.ref b) (.list ys)) : WalkD K cl (Itz K a b) (zipD xs ys) G := by
  cases r with
  | @lst _ vs _ ha rl =>
    cases r' with
    | @lst _ us _ hb rl' =>
      intro i G3 H e1 e2
      have hq : SqL K H a vs := sq_of (e2 _ _ (e1 _ _ ha))
      have hq' : SqL K H b us := sq_of (e2 _ _ (e1 _ _ hb))
      refine ⟨fun d hd => ?_, fun hl => ⟨vs, us, hq, hq', by
        rw [rl.length, rl'.length]
        have hl : ((xs.zip ys).map fun p => PyData.tuple [p.1, p.2]).length ≤ i := hl
        rw [List.length_map, List.length_zip] at hl
        omega⟩⟩
      obtain ⟨x, y, hx, hy, rfl⟩ := zipD_get hd
      obtain ⟨v, hv, rv⟩ := rl.get hx
      obtain ⟨u, hu, ru⟩ := rl'.get hy
      refine ⟨⟨vs, us, v, u, hq, hq', hv, hu⟩, fun z H' ⟨T, y1, y2, ex, hT, eH, h1, h2⟩ => ?_⟩
      subst eH ex
      have e3 := h1 vs hq
      have e4 := h2 us hq'
      rw [hv] at e3
      rw [hu] at e4
      cases e3
      cases e4
      have n := nw_new (o := .tup [v, u]) e2 hT
      exact ⟨_, n, .tup (st_of upd_same) (.cons ((rv.mono e1).mono n.gg) (.cons ((ru.mono e1).mono n.gg) .nil))⟩
theorem rp_listref {G : Hp} {v : V} {ds : List PyData} (r : Rp K cl G v (.list ds)) : ∃ a vs, v = .ref a ∧ G a = some (.lst vs) := by
  cases r with
  | lst h _ => exact ⟨_, _, rfl, h⟩
theorem rp_tupref {G : Hp} {v : V} {ds : List PyData} (r : Rp K cl G v (.tuple ds)) : ∃ a vs, v = .ref a ∧ SqT K G a vs := by
  cases r with
  | tup h _ => exact ⟨_, _, rfl, h⟩
variable {Φ : List PyData → S → Prop}
theorem wpi_list (h : wpe C te s fun w s1 => ∃ ds, w = .d (.list ds) ∧ Φ ds s1) : wpi C (iList C.K te) s Φ := fun F H σ pd wk hx a R q =>
  h F H σ pd wk hx a _ fun v H1 w s1 ⟨ds, e, k⟩ ⟨G, ps, a1⟩ => by
    subst e
    obtain ⟨p, vs, rfl, hp⟩ := rp_listref (show Rp C.K C.cl G v (.list ds) from a1.top)
    exact ⟨p, rfl, ⟨vs, sq_of (a1.gh _ _ hp)⟩, q _ _ ds s1 k ⟨G, ps, a1.pop.walk WalkD.mono (walk_list a1.top)⟩⟩
theorem wpi_tup (h : wpe C te s fun w s1 => ∃ ds, w = .d (.tuple ds) ∧ Φ ds s1) : wpi C (iTup C.K te) s Φ := fun F H σ pd wk hx a R q =>
  h F H σ pd wk hx a _ fun v H1 w s1 ⟨ds, e, k⟩ ⟨G, ps, a1⟩ => by
    subst e
    obtain ⟨p, vs, rfl, hp⟩ := rp_tupref (show Rp C.K C.cl G v (.tuple ds) from a1.top)
    exact ⟨p, rfl, ⟨vs, ex_t a1.gh hp⟩, q _ _ ds s1 k ⟨G, ps, a1.pop.walk WalkD.mono (walk_tup a1.top)⟩⟩
theorem wpi_rng1 {ta : TA} (h : wpa C ta s fun ws s1 => ∃ j : Int, ws = [.d (.int j)] ∧ j ≤ 1000000 ∧ -1000000 ≤ j ∧ Φ (rng 0 j.toNat) s1) : wpi C (iRng1 ta) s Φ := fun F H σ pd wk hx a R q =>
  h F H σ pd wk hx a _ fun vs H1 ws s1 ⟨j, e, j1, j2, k⟩ l ⟨G, ps, a1⟩ => by
    subst e
    obtain ⟨v, rfl⟩ := one_arg l
    exact ⟨j, by rw [rp_int a1.top], by omega, by omega, q _ _ _ s1 k ⟨G, ps, a1.pop.walk WalkD.mono walk_rng⟩⟩
theorem wpi_rng2 {ta : TA} (h : wpa C ta s fun ws s1 => ∃ i j : Int, ws = [.d (.int i), .d (.int j)] ∧ j ≤ 1000000 ∧ -1000000 ≤ j ∧ i ≤ 1000000 ∧ -1000000 ≤ i ∧ Φ (rng i (j - i).toNat) s1) : wpi C (iRng2 ta) s Φ := fun F H σ pd wk hx a R q =>
  h F H σ pd wk hx a _ fun vs H1 ws s1 ⟨i, j, e, j1, j2, i1, i2, k⟩ l ⟨G, ps, a1⟩ => by
    subst e
    obtain ⟨v, u, rfl⟩ := two_args l
    exact ⟨i, j, by rw [rp_int a1.top, rp_int a1.pop.top], by omega, q _ _ _ s1 k ⟨G, ps, a1.pop.pop.walk WalkD.mono walk_rng⟩⟩
theorem wpi_enum {ta : TA} (h : wpa C ta s fun ws s1 => ∃ ds, ws = [.d (.list ds)] ∧ Φ (enumD ds) s1) : wpi C (iEnum C.K ta) s Φ := fun F H σ pd wk hx a R q =>
  h F H σ pd wk hx a _ fun vs H1 ws s1 ⟨ds, e, k⟩ l ⟨G, ps, a1⟩ => by
    subst e
    obtain ⟨v, rfl⟩ := one_arg l
    obtain ⟨p, vs, rfl, hp⟩ := rp_listref (show Rp C.K C.cl G v (.list ds) from a1.top)
    exact ⟨p, vs, rfl, sq_of (a1.gh _ _ hp), q _ _ _ s1 k ⟨G, ps, a1.pop.walk WalkD.mono (walk_enum a1.top)⟩⟩
theorem wpi_zip {ta : TA} (h : wpa C ta s fun ws s1 => ∃ xs ys, ws = [.d (.list xs), .d (.list ys)] ∧ Φ (zipD xs ys) s1) : wpi C (iZip C.K ta) s Φ := fun F H σ pd wk hx a R q =>
  h F H σ pd wk hx a _ fun vs H1 ws s1 ⟨xs, ys, e, k⟩ l ⟨G, ps, a1⟩ => by
    subst e
    obtain ⟨v, u, rfl⟩ := two_args l
    obtain ⟨p, vs, rfl, hp⟩ := rp_listref (show Rp C.K C.cl G v (.list xs) from a1.top)
    obtain ⟨p2, us, rfl, hp2⟩ := rp_listref (show Rp C.K C.cl G u (.list ys) from a1.pop.top)
    exact ⟨p, p2, vs, us, rfl, sq_of (a1.gh _ _ hp), sq_of (a1.gh _ _ hp2), q _ _ _ s1 k ⟨G, ps, a1.pop.pop.walk WalkD.mono (walk_zip a1.top a1.pop.top)⟩⟩

/-! ### 10. loops -/
theorem wps_for {wi : TI} {items : List PyData} (Inv : Nat → S → Prop) (h : wpi C wi s fun its s1 => its = items ∧ Inv 0 s1)
    (hs : ∀ (i : Nat) d s1, items[i]? = some d → Inv i s1 → wpg C g (.d d) s1 fun s2 => wps C t s2 { D with nx := Inv (i + 1), ct := Inv (i + 1), bk := D.nx }) (hd : ∀ s1, Inv items.length s1 → D.nx s1) : wps C (tFor wi g t) s D := fun F H σ wk hx a E o =>
  h F H σ [] wk hx a _ fun J H1 its s1 ⟨e, i0⟩ a1 => by
    subst e
    refine ⟨fun i m σ' H' => m = its.length - i ∧ i ≤ its.length ∧ ∃ s', Inv i s' ∧ At C F H' σ' s' [] (WalkD C.K C.cl J its :: wk), ⟨_, rfl, Nat.zero_le _, s1, i0, a1⟩, ?_⟩
    rintro i m σ' H' ⟨rfl, hi, s', inv, G, ps, a'⟩
    have wd := (a'.wkm _ List.mem_cons_self).2 i G H' (Ex.refl G) a'.gh
    by_cases hlt : i < its.length
    · obtain ⟨d, hd2⟩ : ∃ d, its[i]? = some d := ⟨_, List.getElem?_eq_getElem hlt⟩
      obtain ⟨go, yl⟩ := wd.1 d hd2
      refine .inr ⟨go, fun σ2 H2 => ∃ s2, Inv (i + 1) s2 ∧ At C F H2 σ2 s2 [] (WalkD C.K C.cl J its :: wk), fun σ2 H2 ⟨s2, h1, h2⟩ => ⟨its.length - (i + 1), by omega, rfl, hlt, s2, h1, h2⟩, fun x H2 y => ?_⟩
      obtain ⟨G2, n, rx⟩ := yl x H2 y
      refine hs i d s' hd2 inv F H2 σ' x [] _ hx ⟨G2, ps, (a'.step n).push (w := .d d) rx⟩ _ fun σ3 H3 s3 f3 a3 => ?_
      exact f3 F H3 σ3 _ hx a3 _ ⟨fun σ4 H4 s4 f4 a4 => ⟨s4, f4, a4⟩, fun v H4 σ4 w4 s4 f4 ⟨G4, ps4, a4⟩ => o.rt v H4 σ4 w4 s4 f4 ⟨G4, ps4, a4.unwalk⟩,
        fun σ4 H4 s4 f4 ⟨G4, ps4, a4⟩ => o.nx σ4 H4 s4 f4 ⟨G4, ps4, a4.unwalk⟩, fun σ4 H4 s4 f4 a4 => ⟨s4, f4, a4⟩⟩
    · have hi' : i = its.length := by omega
      subst hi'
      exact .inl ⟨wd.2 (Nat.le_refl _), o.nx σ' H' s' (hd s' inv) ⟨G, ps, a'.unwalk⟩⟩
theorem wps_while {tt : TT} (Inv : Nat → S → Prop) (m0 : Nat) (h0 : Inv m0 s)
    (hs : ∀ (m : Nat) s1, Inv m s1 → wpt C tt s1 fun b s2 => (b = true → wps C t s2 { D with nx := fun s3 => ∃ m', m' < m ∧ Inv m' s3, ct := fun s3 => ∃ m', m' < m ∧ Inv m' s3, bk := D.nx }) ∧ (b = false → D.nx s2)) : wps C (tWhile tt t) s D := fun F H σ wk hx a E o => by
  refine ⟨fun m σ' H' => ∃ s', Inv m s' ∧ At C F H' σ' s' [] wk, ⟨m0, s, h0, a⟩, ?_⟩
  rintro m σ' H' ⟨s', inv, a'⟩
  refine hs m s' inv F H' σ' [] wk hx a' _ fun b H2 s2 ⟨k1, k2⟩ a2 => ?_
  cases b with
  | true =>
    show ∃ N : L2.St → Hp → Prop, _
    exact ⟨fun σ3 H3 => ∃ m', m' < m ∧ ∃ s3, Inv m' s3 ∧ At C F H3 σ3 s3 [] wk, fun σ3 H3 ⟨m', hm, s3, h1, h2⟩ => ⟨m', hm, s3, h1, h2⟩,
      k1 rfl F H2 σ' wk hx a2 _ ⟨fun σ4 H4 s4 ⟨m', hm, f4⟩ a4 => ⟨m', hm, s4, f4, a4⟩, o.rt, o.nx, fun σ4 H4 s4 ⟨m', hm, f4⟩ a4 => ⟨m', hm, s4, f4, a4⟩⟩⟩
  | false => exact o.nx σ' H2 s2 (k2 rfl) a2

/-! ### 11. comprehensions -/
theorem wipe_set {vs : List Nat} {j : Nat} {x : Option V} : ∀ {σ : L2.St}, j ∈ vs → L2.wipe (σ.set j x) vs = L2.wipe σ vs := by
  induction vs with
  | nil =>
    intro σ h
    cases h
  | cons v vs ih =>
    intro σ h
    show (L2.wipe (σ.set j x) vs).set v none = (L2.wipe σ vs).set v none
    by_cases hj : j ∈ vs
    · rw [ih hj]
    · have e : j = v := by
        rcases List.mem_cons.mp h with e | e
        · exact e
        · exact absurd e hj
      subst e
      have key : ∀ {us : List Nat} {τ : L2.St}, j ∉ us → L2.wipe (τ.set j x) us = (L2.wipe τ us).set j x := by
        intro us
        induction us with
        | nil =>
          intro τ _
          rfl
        | cons u us ihu =>
          intro τ hn
          have h1 : j ≠ u := fun e => hn (e ▸ List.mem_cons_self)
          have h2 : j ∉ us := fun e => hn (List.mem_cons_of_mem _ e)
          show (L2.wipe (τ.set j x) us).set u none = ((L2.wipe τ us).set u none).set j x
          rw [ihu h2, List.set_comm _ _ h1]
      rw [key hj, List.set_set]
theorem wipe_wipe {vs : List Nat} : ∀ {us : List Nat} {σ : L2.St}, (∀ u ∈ us, u ∈ vs) → L2.wipe (L2.wipe σ us) vs = L2.wipe σ vs := by
  intro us
  induction us with
  | nil =>
    intro σ _
    rfl
  | cons u us ih =>
    intro σ h
    show L2.wipe ((L2.wipe σ us).set u none) vs = L2.wipe σ vs
    rw [wipe_set (h u List.mem_cons_self), ih fun x hx => h x (List.mem_cons_of_mem _ hx)]
/-- a target stores into the slots vs alone -/
def TgW (g : TG) (vs : List Nat) : Prop := ∀ v σ H (Q : L2.St → Hp → Prop), g v σ H Q → g v σ H fun σ2 H2 => L2.wipe σ2 vs = L2.wipe σ vs ∧ Q σ2 H2
theorem tgw_name {j : Nat} {vs : List Nat} (h : j ∈ vs) : TgW (gName j) vs := fun v σ H Q q => ⟨wipe_set h, q⟩
theorem tgw_tup2 {i j : Nat} {vs : List Nat} (hi : i ∈ vs) (hj : j ∈ vs) : TgW (gTup K 2 (gCons (gName i) (gCons (gName j) gNil))) vs := fun v σ H Q ⟨a, xs, e, hs, hl, v1, r1, e1, v2, r2, e2, e3, q⟩ =>
  ⟨a, xs, e, hs, hl, v1, r1, e1, v2, r2, e2, e3, by rw [wipe_set hj, wipe_set hi], q⟩
end
end DL
set_option Elab.async false
set_option linter.all false
set_option maxRecDepth 100000
set_option maxHeartbeats 2000000
namespace DL
open PySem L2 Evl
def W.lt (k : Nat) : W → Prop
  | .m j => j < k
  | _ => True
section
variable {C : Cn} {F : Fr} {G G' : Hp} {ps qs : List Addr} {H H' : Hp} {σ σ' : L2.St} {s : S} {pd pd' : List (V × W)} {wk : List (Hp → Prop)} {v : V} {w : W} {P : Addr}
theorem RpW.scope : ∀ {w : W}, RpW C P G ps v w → w.lt ps.length
  | .d _, _ => trivial
  | .m _, ⟨_, h, _⟩ => (List.getElem?_eq_some_iff.mp h).1
  | .pen, _ => trivial
  | .v _, _ => trivial
theorem RpW.shrink {k : Nat} (e : Ex G G') : ∀ {w : W}, RpW C P G ps v w → w.lt k → RpW C P G' (ps.take k) v w
  | .d _, h, _ => Rp.mono e h
  | .m j, ⟨p, h, e⟩, l => ⟨p, by
    have l : j < k := l
    rw [List.getElem?_take_of_lt l]
    exact h, e⟩
  | .pen, h, _ => h
  | .v _, h, _ => h
/-- the slots' values, as they are pending -/
def slotsOf : L2.St → List W → List (V × W)
  | some v :: σ, w :: ws => if w.is then (v, w) :: slotsOf σ ws else slotsOf σ ws
  | none :: σ, _ :: ws => slotsOf σ ws
  | _, _ => []
theorem slots_mem : ∀ {σ : L2.St} {ws : List W} {i : Nat} {v : V} {w : W}, σ[i]? = some (some v) → ws[i]? = some w → w.is = true → (v, w) ∈ slotsOf σ ws
  | [], _, i, _, _, h, _, _ => by simp at h
  | _ :: _, [], i, _, _, _, h, _ => by simp at h
  | o :: σ, u :: ws, 0, v, w, h1, h2, h3 => by
    simp at h1 h2
    subst h1 h2
    simp [slotsOf, h3]
  | o :: σ, u :: ws, i + 1, v, w, h1, h2, h3 => by
    have ih := slots_mem (σ := σ) (ws := ws) (i := i) (by simpa using h1) (by simpa using h2) h3
    cases o with
    | none => exact ih
    | some x =>
      show (v, w) ∈ (if u.is then (x, u) :: slotsOf σ ws else slotsOf σ ws)
      split
      · exact List.mem_cons_of_mem _ ih
      · exact ih
theorem mem_slots : ∀ {σ : L2.St} {ws : List W} {q : V × W}, q ∈ slotsOf σ ws → ∃ i : Nat, σ[i]? = some (some q.1) ∧ ws[i]? = some q.2 ∧ q.2.is = true
  | [], _, _, h => by simp [slotsOf] at h
  | o :: σ, [], _, h => by cases o <;> simp [slotsOf] at h
  | none :: σ, u :: ws, q, h => by
    obtain ⟨i, h1, h2, h3⟩ := mem_slots (σ := σ) (ws := ws) h
    exact ⟨i + 1, by simpa using h1, by simpa using h2, h3⟩
  | some x :: σ, u :: ws, q, h => by
    have h : q ∈ (if u.is then (x, u) :: slotsOf σ ws else slotsOf σ ws) := h
    split at h
    · rename_i hu
      rcases List.mem_cons.mp h with e | h
      · subst e
        exact ⟨0, rfl, rfl, hu⟩
      · obtain ⟨i, h1, h2, h3⟩ := mem_slots h
        exact ⟨i + 1, by simpa using h1, by simpa using h2, h3⟩
    · obtain ⟨i, h1, h2, h3⟩ := mem_slots h
      exact ⟨i + 1, by simpa using h1, by simpa using h2, h3⟩
theorem W.is_ne (h : w ≠ .no) : w.is = true := by
  cases w <;> first | rfl | exact absurd rfl h
theorem AtG.slots (a : AtG C F G ps H σ s pd wk) : AtG C F G ps H σ s (slotsOf σ s.sl ++ pd) wk :=
  { a with pend := fun q hq => (List.mem_append.mp hq).elim (fun hq => by
      obtain ⟨i, h1, h2, h3⟩ := mem_slots hq
      obtain ⟨v, e, r⟩ := a.env i q.2 h2 (fun e => by rw [e] at h3; cases h3)
      rw [h1] at e
      cases e
      exact r) (fun hq => a.pend q hq) }
/-- other slots, told by what is pending -/
theorem AtG.reslot {sl : List W} (a : AtG C F G ps H σ s pd wk) (hl : σ'.length = sl.length) (h : ∀ (i : Nat) (w : W), sl[i]? = some w → w ≠ .no → ∃ v, σ'[i]? = some (some v) ∧ (v, w) ∈ pd) : AtG C F G ps H σ' { s with sl := sl } pd wk :=
  { a with len := hl, env := fun i w h1 h2 => (h i w h1 h2).elim fun v hv => ⟨v, hv.1, a.pend _ hv.2⟩ }
theorem wipeW_some {sl : List W} {i : Nat} {w : W} : ∀ {vs : List Nat}, (wipeW sl vs)[i]? = some w → w ≠ .no → sl[i]? = some w ∧ i ∉ vs
  | [], h, _ => ⟨h, by simp⟩
  | u :: vs, h, hw => by
    have h : ((wipeW sl vs).set u .no)[i]? = some w := h
    by_cases hi : u = i
    · subst hi
      have hl : u < (wipeW sl vs).length := by
        have := (List.getElem?_eq_some_iff.mp h).1
        rwa [List.length_set] at this
      rw [List.getElem?_set_self hl] at h
      cases h
      exact absurd rfl hw
    · rw [List.getElem?_set_ne hi] at h
      obtain ⟨h1, h2⟩ := wipeW_some h hw
      exact ⟨h1, fun hm => (List.mem_cons.mp hm).elim (fun e => hi e.symm) h2⟩
theorem wipe_keep {i : Nat} : ∀ {vs : List Nat}, i ∉ vs → (L2.wipe σ vs)[i]? = σ[i]?
  | [], _ => rfl
  | u :: vs, h => by
    show ((L2.wipe σ vs).set u none)[i]? = σ[i]?
    have hne : u ≠ i := fun e => h (by rw [e]; exact List.mem_cons_self)
    rw [List.getElem?_set_ne hne, wipe_keep fun hm => h (List.mem_cons_of_mem _ hm)]
theorem wipeW_len {sl : List W} : ∀ {vs : List Nat}, (wipeW sl vs).length = sl.length
  | [] => rfl
  | u :: vs => by
    show ((wipeW sl vs).set u .no).length = sl.length
    rw [List.length_set, wipeW_len]
theorem take_last {ps : List Addr} {k : Nat} {p : Addr} (h : ps[k]? = some p) (hl : ps.length = k + 1) : ps = ps.take k ++ [p] := by
  have e : ps.take (k + 1) = ps := List.take_of_length_le (Nat.le_of_eq hl)
  rw [List.take_succ, h] at e
  exact e.symm
end
end DL
set_option Elab.async false
set_option linter.all false
set_option maxRecDepth 100000
set_option maxHeartbeats 2000000
namespace DL
open PySem L2 Evl
section
variable {C : Cn} {s : S} {tt : TT} {te : TE} {wi : TI} {g : TG} {vs : List Nat} {Φ : W → S → Prop}
/-- the state within a comprehension: the block's names forgotten, the list so far beside the others -/
def S.inC (s : S) (vs : List Nat) (acc : List W) (c : Nat) : S := ⟨wipeW s.sl vs, s.ms ++ [some acc], c⟩
/-- one turn: from the items, what it adds -/
def LcTurn (C : Cn) (g : TG) (tt : TT) (te : TE) (vs : List Nat) (s1 : S) (d : PyData) (acc : List PyData) (c : Nat) (K : List PyData → Nat → Prop) : Prop :=
  wpg C g (.d d) (s1.inC vs (acc.map .d) c) fun s2 => wpt C tt s2 fun b s3 =>
    (b = true → wpe C te s3 fun w s4 => ∃ x, w = .d x ∧ s4.ms = s1.ms ++ [some (acc.map .d)] ∧ K (acc ++ [x]) s4.c) ∧
    (b = false → s3.ms = s1.ms ++ [some (acc.map .d)] ∧ K acc s3.c)
theorem lc_run (hg : TgW g vs) {F : Fr} {H1 : Hp} {σ : L2.St} {s1 : S} {pd : List (V × W)} {wk : List (Hp → Prop)} {items : List PyData} {J : It} {Q : VK} (hx : EXok C F) {G1 : Hp} {ps1 : List Addr}
    (a1 : AtG C F G1 ps1 H1 σ s1 pd (WalkD C.K C.cl J items :: wk)) (Inv : Nat → List PyData → Nat → Prop) (i0 : Inv 0 [] s1.c)
    (turn : ∀ (i : Nat) d acc c, items[i]? = some d → Inv i acc c → acc.length ≤ i → LcTurn C g tt te vs s1 d acc c (Inv (i + 1))) (hl : items.length ≤ 99999)
    (D : Addr) (hD : H1 D = none)
    (done : ∀ acc c H G ps, acc.length ≤ items.length → Inv items.length acc c → AtG C F G ps H (L2.wipe σ vs) (s1.inC vs (acc.map .d) c) ((.ref D, .m s1.ms.length) :: (slotsOf σ s1.sl ++ pd)) (WalkD C.K C.cl J items :: wk) → Q (.ref D) H) :
    ∃ W : Nat → Nat → Hp → Prop, (∃ m, W 0 m (upd H1 D (.lst []))) ∧ ∀ i m H, W i m H →
      (J.stop i H ∧ Q (.ref D) H) ∨ (J.go i H ∧ ∃ Nx : Hp → Prop, (∀ H', Nx H' → ∃ m', m' < m ∧ W (i + 1) m' H') ∧ ∀ x H', J.yld i H x H' → g x (L2.wipe σ vs) H' fun σ2 H2 => L2.wipe σ2 vs = L2.wipe σ vs ∧ tt σ2 H2 fun b H3 =>
        if b = true then te σ2 H3 fun y H4 => ∃ acc, H4 D = some (.lst acc) ∧ acc.length < sizeLine ∧ Nx (upd H4 D (.lst (acc ++ [y]))) else Nx H3) := by
  -- the word at the turn i
  refine ⟨fun i m H => m = items.length - i ∧ i ≤ items.length ∧ ∃ acc c, Inv i acc c ∧ acc.length ≤ i ∧ ∃ G ps, AtG C F G ps H (L2.wipe σ vs) (s1.inC vs (acc.map .d) c) ((.ref D, .m s1.ms.length) :: (slotsOf σ s1.sl ++ pd)) (WalkD C.K C.cl J items :: wk),
    ⟨_, rfl, Nat.zero_le _, [], s1.c, i0, Nat.zero_le _, ?_⟩, ?_⟩
  · have b : AtG C F G1 ps1 H1 (L2.wipe σ vs) (s1.wipe vs) (slotsOf σ s1.sl ++ pd) (WalkD C.K C.cl J items :: wk) := (a1.slots).wipe vs
    exact ⟨G1, _, b.cell (vs := []) (ws := []) hD .nil⟩
  · rintro i m H ⟨rfl, hi, acc, c, inv, hal, G, ps, a⟩
    have wd := (a.wkm _ List.mem_cons_self).2 i G H (Ex.refl G) a.gh
    by_cases hlt : i < items.length
    · obtain ⟨d, hd⟩ : ∃ d, items[i]? = some d := ⟨_, List.getElem?_eq_getElem hlt⟩
      obtain ⟨go, yl⟩ := wd.1 d hd
      refine .inr ⟨go, fun H' => ∃ acc c, Inv (i + 1) acc c ∧ acc.length ≤ i + 1 ∧ ∃ G ps, AtG C F G ps H' (L2.wipe σ vs) (s1.inC vs (acc.map .d) c) ((.ref D, .m s1.ms.length) :: (slotsOf σ s1.sl ++ pd)) (WalkD C.K C.cl J items :: wk),
        fun H' ⟨acc, c, h1, h2, h3⟩ => ⟨items.length - (i + 1), by omega, rfl, hlt, acc, c, h1, h2, h3⟩, fun x H' y => ?_⟩
      obtain ⟨G2, n, rx⟩ := yl x H' y
      have ww : L2.wipe (L2.wipe σ vs) vs = L2.wipe σ vs := wipe_wipe fun _ h => h
      -- back to the slots as they stand between the turns
      have back : ∀ {σ3 : L2.St} {H3 : Hp} {s3 : S} {acc' : List PyData}, s3.ms = s1.ms ++ [some (acc'.map .d)] → At C F H3 σ3 s3 ((.ref D, .m s1.ms.length) :: (slotsOf σ s1.sl ++ pd)) (WalkD C.K C.cl J items :: wk) →
          ∃ G ps, AtG C F G ps H3 (L2.wipe σ vs) (s1.inC vs (acc'.map .d) s3.c) ((.ref D, .m s1.ms.length) :: (slotsOf σ s1.sl ++ pd)) (WalkD C.K C.cl J items :: wk) := by
        rintro σ3 H3 s3 acc' em ⟨G3, ps3, a3⟩
        refine ⟨G3, ps3, ?_⟩
        have r := a3.reslot (σ' := L2.wipe σ vs) (sl := wipeW s1.sl vs) (by rw [wipe_length, wipeW_len]; exact a1.len) fun j w h1 h2 => by
          obtain ⟨h3, h4⟩ := wipeW_some h1 h2
          obtain ⟨v, e, _⟩ := a1.env j w h3 h2
          exact ⟨v, by rw [wipe_keep h4]; exact e, List.mem_cons_of_mem _ (List.mem_append_left _ (slots_mem e h3 (W.is_ne h2)))⟩
        have es : ({ s3 with sl := wipeW s1.sl vs } : S) = s1.inC vs (acc'.map .d) s3.c := by
          unfold S.inC
          rw [← em]
        rw [es] at r
        exact r
      have hb : g x (L2.wipe σ vs) H' fun σ2 H2 => tt σ2 H2 fun b H3 => if b = true then te σ2 H3 fun y H4 => ∃ acc, H4 D = some (.lst acc) ∧ acc.length < sizeLine ∧
          (∃ acc' c, Inv (i + 1) acc' c ∧ acc'.length ≤ i + 1 ∧ ∃ G ps, AtG C F G ps (upd H4 D (.lst (acc ++ [y]))) (L2.wipe σ vs) (s1.inC vs (acc'.map .d) c) ((.ref D, .m s1.ms.length) :: (slotsOf σ s1.sl ++ pd)) (WalkD C.K C.cl J items :: wk))
          else ∃ acc' c, Inv (i + 1) acc' c ∧ acc'.length ≤ i + 1 ∧ ∃ G ps, AtG C F G ps H3 (L2.wipe σ vs) (s1.inC vs (acc'.map .d) c) ((.ref D, .m s1.ms.length) :: (slotsOf σ s1.sl ++ pd)) (WalkD C.K C.cl J items :: wk) := by
        refine turn i d acc c hd inv hal F H' (L2.wipe σ vs) x _ _ hx ⟨G2, ps, (a.step n).push (w := .d d) rx⟩ _ fun σ2 H2 s2 f2 a2 => ?_
        refine f2 F H2 σ2 _ _ hx a2 _ fun b H3 s3 ⟨k1, k2⟩ a3 => ?_
        cases b with
        | true =>
          show te σ2 H3 _
          refine k1 rfl F H3 σ2 _ _ hx a3 _ fun y2 H4 w s4 ⟨xd, ew, em, inv4⟩ ⟨G4, ps4, a4⟩ => ?_
          subst ew
          obtain ⟨p, hp, ep⟩ := a4.pop.top
          cases ep
          have hm : s4.ms[s1.ms.length]? = some (some (acc.map W.d)) := by
            rw [em, List.getElem?_append_right (Nat.le_refl _)]
            simp
          obtain ⟨_, _, vs4, eh4, r4⟩ := a4.ms _ D _ hp hm
          refine ⟨vs4, eh4, sz_lt (by rw [r4.length, List.length_map]; omega), acc ++ [xd], s4.c, inv4, by rw [List.length_append]; exact Nat.add_le_add_right hal 1, ?_⟩
          have pt := a4.pop.put hp hm (ws' := (acc ++ [xd]).map W.d) (vs := vs4 ++ [y2]) (by
            rw [List.map_append]
            exact PySem.Paired.snoc r4 a4.top)
          exact back (s3 := { s4 with ms := s4.ms.set s1.ms.length (some ((acc ++ [xd]).map W.d)) }) (by
            show s4.ms.set _ _ = _
            rw [em, List.set_append_right _ _ (Nat.le_refl _), Nat.sub_self]
            rfl) ⟨G4, ps4, pt⟩
        | false =>
          show ∃ acc' c, _
          obtain ⟨em, inv3⟩ := k2 rfl
          exact ⟨acc, s3.c, inv3, by omega, back em a3⟩
      have hb2 := hg x (L2.wipe σ vs) H' _ hb
      rw [ww] at hb2
      exact hb2
    · have hi' : i = items.length := by omega
      subst hi'
      exact .inl ⟨wd.2 (Nat.le_refl _), done acc c H G ps hal inv a⟩
/-- behind the comprehension: the list is of the data -/
theorem lc_fin {F : Fr} {H1 H2 : Hp} {σ : L2.St} {s1 : S} {pd : List (V × W)} {wk wk1 : List (Hp → Prop)} {q0 : Hp → Prop} {G1 G : Hp} {ps1 ps : List Addr} {D : Addr} {acc : List PyData} {c : Nat} (a1 : AtG C F G1 ps1 H1 σ s1 pd wk1)
    (b : AtG C F G ps H2 (L2.wipe σ vs) (s1.inC vs (acc.map .d) c) ((.ref D, .m s1.ms.length) :: (slotsOf σ s1.sl ++ pd)) (q0 :: wk)) : At C F H2 σ { s1 with c := c } ((.ref D, .d (.list acc)) :: pd) wk := by
  -- the list is of the data from now on
  obtain ⟨p, hp, ep⟩ := b.top
  cases ep
  have hm : (s1.inC vs (acc.map W.d) c).ms[s1.ms.length]? = some (some (acc.map W.d)) := by
    show (s1.ms ++ [some (acc.map W.d)])[s1.ms.length]? = _
    rw [List.getElem?_append_right (Nat.le_refl _)]
    simp
  obtain ⟨n0, ng, vs4, eh4, r4⟩ := b.ms _ D _ hp hm
  have hpl : ps.length = s1.ms.length + 1 := by
    rw [b.psl]
    show (s1.ms ++ [some (acc.map W.d)]).length = _
    rw [List.length_append]
    rfl
  have eps := take_last hp hpl
  have eg : Ex G (upd G D (.lst vs4)) := Ex.new ng
  have rp : Rp C.K C.cl (upd G D (.lst vs4)) (.ref D) (.list acc) := .lst upd_same ((rpl_of r4).mono eg)
  have scope : ∀ {v : V} {w : W}, RpW C F.pn.P G1 ps1 v w → w.lt s1.ms.length := fun h => by
    rw [← a1.psl]
    exact h.scope
  have dn : D ∉ ps.take s1.ms.length := fun hm => by
    have nd := b.psn
    rw [eps] at nd
    exact (List.nodup_append.mp nd).2.2 D hm D (by simp) rfl
  refine ⟨upd G D (.lst vs4), ps.take s1.ms.length, ?_⟩
  refine ⟨fun x o e => ?_, b.g0.trans eg, b.h0, fun x h g => ?_, a1.len, fun i w h1 h2 => ?_, ?_, ?_, fun k x ws h1 h2 => ?_, fun z hz => ?_, fun z hz => ?_, F.pn.px _ _ _ _ _ eg (fun _ _ h _ => h) b.pn, fun z hz => b.psh z (List.mem_of_mem_take hz), b.pk⟩
  · by_cases hb : x = D
    · rw [hb, upd_same] at e
      cases e
      rw [hb]
      exact eh4
    · rw [upd_ne hb] at e
      exact b.gh x o e
  · have hb : x ≠ D := fun z => by
      rw [z] at h
      exact h n0
    rw [upd_ne hb]
    exact b.fr x h g
  · obtain ⟨v, e, r⟩ := a1.env i w h1 h2
    exact ⟨v, e, (b.pend _ (List.mem_cons_of_mem _ (List.mem_append_left _ (slots_mem e h1 (W.is_ne h2))))).shrink eg (scope r)⟩
  · have nd := b.psn
    rw [eps] at nd
    exact (List.nodup_append.mp nd).1
  · show (ps.take s1.ms.length).length = s1.ms.length
    rw [List.length_take]
    omega
  · have hk : k < s1.ms.length := (List.getElem?_eq_some_iff.mp h2).1
    rw [List.getElem?_take_of_lt hk] at h1
    have h3 : (s1.inC vs (acc.map W.d) c).ms[k]? = some (some ws) := getElem?_app h2
    obtain ⟨e1, e2, us, e3, r⟩ := b.ms k x ws h1 h3
    have hxD : x ≠ D := fun z => by
      rw [z] at h1
      have := (List.getElem?_inj (by omega) b.psn).mp (h1.trans hp.symm)
      omega
    obtain ⟨x1, hx1⟩ : ∃ x1, ps1[k]? = some x1 := ⟨_, List.getElem?_eq_getElem (by rw [a1.psl]; exact hk)⟩
    obtain ⟨_, _, us1, _, r1⟩ := a1.ms k x1 ws hx1 h2
    refine ⟨e1, by rw [upd_ne hxD]; exact e2, us, e3, ?_⟩
    have key : ∀ {l : List V} {m : List W} {l1 : List V}, Paired (RpW C F.pn.P G ps) l m → Paired (RpW C F.pn.P G1 ps1) l1 m → Paired (RpW C F.pn.P (upd G D (.lst vs4)) (ps.take s1.ms.length)) l m := by
      intro l m l1 h
      induction h generalizing l1 with
      | nil => exact fun _ => .nil
      | cons h r ih =>
        intro h1
        cases h1 with
        | cons h1 r1 => exact .cons (h.shrink eg (scope h1)) (ih r1)
    exact key r r1
  · rcases List.mem_cons.mp hz with e | hz
    · rw [e]
      exact rp
    · exact (b.pend z (List.mem_cons_of_mem _ (List.mem_append_right _ hz))).shrink eg (scope (a1.pend z hz))
  · have := b.wkm z (List.mem_cons_of_mem _ hz)
    exact ⟨this.1, this.1 _ _ eg this.2⟩
/-- [e for .. in .. if ..], of data -/
theorem wpe_lc (hg : TgW g vs) (h : wpi C wi s fun items s1 => ∃ Inv : Nat → List PyData → Nat → Prop, Inv 0 [] s1.c ∧ items.length ≤ 99999 ∧
    (∀ (i : Nat) d acc c, items[i]? = some d → Inv i acc c → acc.length ≤ i → LcTurn C g tt te vs s1 d acc c (Inv (i + 1))) ∧
    (∀ acc c, acc.length ≤ items.length → Inv items.length acc c → Φ (.d (.list acc)) { s1 with c := c })) : wpe C (tLc wi g tt te vs) s Φ := fun F H σ pd wk hx a Q q =>
  h F H σ pd wk hx a _ fun J H1 items s1 ⟨Iv, i0, hl, turn, done⟩ ⟨G1, ps1, a1⟩ D hD => by
    refine lc_run hg hx a1 Iv i0 turn hl D hD fun acc c H2 G ps hal inv b => ?_
    exact q _ _ _ _ (done acc c hal inv) (lc_fin a1 b)
/-- the same, the list to be changed later -/
theorem wpe_lcM (hg : TgW g vs) (h : wpi C wi s fun items s1 => ∃ Inv : Nat → List PyData → Nat → Prop, Inv 0 [] s1.c ∧ items.length ≤ 99999 ∧
    (∀ (i : Nat) d acc c, items[i]? = some d → Inv i acc c → acc.length ≤ i → LcTurn C g tt te vs s1 d acc c (Inv (i + 1))) ∧
    (∀ acc c, acc.length ≤ items.length → Inv items.length acc c → Φ (.m s1.ms.length) ⟨s1.sl, s1.ms ++ [some (acc.map .d)], c⟩)) : wpe C (tLc wi g tt te vs) s Φ := fun F H σ pd wk hx a Q q =>
  h F H σ pd wk hx a _ fun J H1 items s1 ⟨Iv, i0, hl, turn, done⟩ ⟨G1, ps1, a1⟩ D hD => by
    refine lc_run hg hx a1 Iv i0 turn hl D hD fun acc c H2 G ps hal inv b => q _ _ _ _ (done acc c hal inv) ⟨G, ps, ?_⟩
    have r := b.unwalk.reslot (σ' := σ) (sl := s1.sl) a1.len fun j w h1 h2 => by
      obtain ⟨v, e, _⟩ := a1.env j w h1 h2
      exact ⟨v, e, List.mem_cons_of_mem _ (List.mem_append_left _ (slots_mem e h1 (W.is_ne h2)))⟩
    exact r.sub fun z hz => (List.mem_cons.mp hz).elim (fun e => by rw [e]; exact List.mem_cons_self) (fun hz => List.mem_cons_of_mem _ (List.mem_append_right _ hz))
/-- the plain form: items told by xs, a test and an element that are functions of the item and change nothing -/
theorem wpe_lcP {α : Type} (xs : List α) (inj : α → PyData) (b : α → Bool) (f : α → PyData) (hg : TgW g vs) (h : wpi C wi s fun items s1 => items = xs.map inj ∧ xs.length ≤ 99999 ∧
    (∀ x ∈ xs, ∀ s2 : S, s2.sl = wipeW s1.sl vs → s2.c = s1.c → (∀ (k : Nat) o, s1.ms[k]? = some o → s2.ms[k]? = some o) → wpg C g (.d (inj x)) s2 fun s3 => wpt C tt s3 fun bb s4 => bb = b x ∧ s4.c = s1.c ∧ s4.ms = s2.ms ∧ (b x = true → wpe C te s4 fun w s5 => w = .d (f x) ∧ s5.c = s1.c ∧ s5.ms = s2.ms)) ∧
    Φ (.d (.list ((xs.filter b).map f))) s1) : wpe C (tLc wi g tt te vs) s Φ := wpe_lc hg fun F H σ pd wk hx a R q => h F H σ pd wk hx a R fun J H2 items s1 ⟨e, hl, turn, k⟩ a2 => q J H2 items s1 (by
  subst e
  refine ⟨fun i acc c => c = s1.c ∧ acc = ((xs.take i).filter b).map f, ⟨rfl, by simp⟩, by rw [List.length_map]; exact hl, fun i d acc c hd ⟨ec, ea⟩ hal => ?_, fun acc c _ ⟨ec, ea⟩ => ?_⟩
  · rw [List.getElem?_map] at hd
    cases ex : xs[i]? with
    | none =>
      rw [ex] at hd
      cases hd
    | some x =>
      rw [ex] at hd
      cases hd
      subst ec
      have hxm : x ∈ xs := List.mem_of_getElem? ex
      have et : xs.take (i + 1) = xs.take i ++ [x] := by rw [List.take_succ, ex]; rfl
      refine fun F H σ v pd wk hx a Q q => turn x hxm (s1.inC vs (acc.map .d) s1.c) rfl rfl (fun k o hk => getElem?_app hk) F H σ v pd wk hx a Q fun σ2 H2 s3 f3 a3 => q σ2 H2 s3 (f3.imp fun bb s4 ⟨eb, ec4, em4, f4⟩ => ⟨fun hb => ?_, fun hb => ?_⟩) a3
      · rw [hb] at eb
        refine (f4 eb.symm).imp fun w s5 ⟨ew, ec5, em5⟩ => ⟨f x, ew, em5, ec5, ?_⟩
        rw [et, List.filter_append, List.map_append, ea]
        congr 1
        rw [List.filter_cons, if_pos eb.symm]
        rfl
      · rw [hb] at eb
        refine ⟨em4, ec4, ?_⟩
        rw [et, List.filter_append, List.map_append, ea, List.filter_cons, if_neg (by rw [← eb]; exact Bool.false_ne_true)]
        simp
  · subst ec ea
    rw [List.length_map, List.take_length]
    exact k) a2
end

/-! ### 12. a def keeps its promise -/
def start0 (ds : List W) (n : Nat) (c : Nat) : S := ⟨ds ++ List.replicate (n - ds.length) .no, [], c⟩
theorem start_env {C : Cn} {P : Addr} {G : Hp} {ps : List Addr} {N : List Str} : ∀ {vs : List V} {ws : List W}, Paired (RpW C P G ps) vs ws → ∀ (i : Nat) (w : W), (ws ++ List.replicate (N.length - ws.length) W.no)[i]? = some w → w ≠ .no →
    ∃ v, (L2.start N vs)[i]? = some (some v) ∧ RpW C P G ps v w := by
  intro vs ws r i w h hw
  have hl := r.length
  by_cases hi : i < ws.length
  · rw [List.getElem?_append_left hi] at h
    obtain ⟨v, h1, h2⟩ := Paired.getR r h
    refine ⟨v, ?_, h2⟩
    unfold L2.start
    rw [List.getElem?_append_left (by rw [List.length_map, hl]; exact hi), List.getElem?_map, h1]
    rfl
  · rw [List.getElem?_append_right (by omega), List.getElem?_replicate] at h
    split at h
    · cases h
      exact absurd rfl hw
    · cases h
theorem sp_ok {K : PySem.W.Frag} {cl : Str → Option Addr} {Wd : Wf} {t : TS} {N : List Str} {vs : List V} {H : Hp} {Q : VK} {E : XK} (hsp : spP K cl Wd vs H Q E) (hn : vs.length ≤ N.length)
    (h : ∀ ds Φ Ψ, Wd ds Φ Ψ → wps { K := K, cl := cl, EX := E, Psi := Ψ } t (start0 (ds.map .d) N.length 0) { nx := fun _ => Φ .none, rt := fun w _ => ∃ d, w = .d d ∧ Φ d }) :
    t { nx := fun _ H' => Q .non H', rt := Q } (L2.start N vs) H := by
  obtain ⟨G, ds, Φ, Ψ, eg, r, hw, k1, k2⟩ := hsp
  have rw_ : ∀ {ps : List Addr}, Paired (RpW { K := K, cl := cl, EX := E, Psi := Ψ } 0 G ps) vs (ds.map W.d) := rpw_of r
  refine h ds Φ Ψ hw ⟨G, H, Pn.none, fun _ z => z.elim, fun _ z => z.elim⟩ H _ [] (fun er he Ca dx fs G2 H2 hc g1 g2 g3 g4 g5 g6 g7 => k2 er he Ca dx fs G2 H2 hc ⟨fun b o e => g3 b o (fun z => z.elim) e, g1, g2, g4⟩ g5 g6 g7)
    ⟨G, [], eg, Ex.refl G, fun _ _ _ e => e, fun _ _ g => g, ?_, start_env rw_, List.nodup_nil, rfl, fun k p ws h1 _ => by simp at h1, fun q hq => by simp at hq, fun q hq => by simp at hq, trivial, fun p hp => by simp at hp, trivial⟩ _
    ⟨fun σ2 H2 s2 f ⟨G2, ps2, a2⟩ => k1 .none .non G2 H2 f ⟨fun b o e => a2.h0 b o (fun z => z.elim) e, a2.g0, a2.gh, a2.fr⟩ .non, fun v H2 σ2 w s2 ⟨d, ew, f⟩ ⟨G2, ps2, a2⟩ => ?_, fun _ _ _ z => z.elim, fun _ _ _ z => z.elim⟩
  · have hl := r.length
    show (vs.map some ++ List.replicate (N.length - vs.length) none).length = (ds.map W.d ++ List.replicate (N.length - (ds.map W.d).length) W.no).length
    simp only [List.length_append, List.length_map, List.length_replicate]
    omega
  · subst ew
    exact k1 d v G2 H2 f ⟨fun b o e => a2.h0 b o (fun z => z.elim) e, a2.g0, a2.gh, a2.fr⟩ a2.top
theorem spN_ok {K : PySem.W.Frag} {cl : Str → Option Addr} {pk : Pn → Prop} {Wd : WfN} {t : TS} {N : List Str} {vs : List V} {H : Hp} {Q : VK} {E : XK} (hpx : ∀ n : Pn, pk n → ∀ a c (G H : Hp), n.pen c G H → n.X a → H a ≠ none) (hsp : spN K cl pk Wd vs H Q E) (hn : vs.length ≤ N.length)
    (h : ∀ ds c Φ, Wd ds c Φ → wps { K := K, cl := cl, EX := E, Psi := fun _ => False, pk := pk } t (start0 (.pen :: ds.map .d) N.length c) { nx := fun s => Φ .none s.c, rt := fun w s => ∃ d, w = .d d ∧ Φ d s.c }) :
    t { nx := fun _ H' => Q .non H', rt := Q } (L2.start N vs) H := by
  obtain ⟨n, us, G, ds, c, Φ, ev, hpk, eg, hxg, r, hpen, hw, k1⟩ := hsp
  subst ev
  have rw_ : ∀ {ps : List Addr}, Paired (RpW { K := K, cl := cl, EX := E, Psi := fun _ => False, pk := pk } n.P G ps) (.ref n.P :: us) (W.pen :: ds.map W.d) := .cons rfl (rpw_of r)
  refine h ds c Φ hw ⟨G, H, n, hxg, fun a ha => n.pe c G H a hpen ha⟩ H _ [] (fun er he => he.elim)
    ⟨G, [], eg, Ex.refl G, fun _ _ _ e => e, fun _ _ g => g, ?_, start_env rw_, List.nodup_nil, rfl, fun k p ws h1 _ => by simp at h1, fun q hq => by simp at hq, fun q hq => by simp at hq, hpen, fun p hp => by simp at hp, hpk⟩ _
    ⟨fun σ2 H2 s2 f ⟨G2, ps2, a2⟩ => k1 .none s2.c .non G2 H2 f a2.g0 a2.gh a2.h0 a2.fr a2.pn .non, fun v H2 σ2 w s2 ⟨d, ew, f⟩ ⟨G2, ps2, a2⟩ => ?_, fun _ _ _ z => z.elim, fun _ _ _ z => z.elim⟩
  · have hl := r.length
    show ((V.ref n.P :: us).map some ++ List.replicate (N.length - (V.ref n.P :: us).length) none).length = ((W.pen :: ds.map W.d) ++ List.replicate (N.length - (W.pen :: ds.map W.d).length) W.no).length
    simp only [List.length_append, List.length_map, List.length_replicate, List.length_cons]
    omega
  · subst ew
    exact k1 d s2.c v G2 H2 f a2.g0 a2.gh a2.h0 a2.fr a2.pn a2.top
end DL
set_option Elab.async false
set_option linter.all false
set_option maxRecDepth 100000
set_option maxHeartbeats 2000000
namespace DL
open PySem L2 Evl

/-! ### 13. names for the rules' readings -/
def rAddI : R2 := rI0 fun i j => .int (i + j)
def rSubI : R2 := rI0 fun i j => .int (i - j)
def rMulI : R2 := rI CMul fun i j => .int (i * j)
def rModN : R2 := rI (fun _ j => j ≠ 0) fun i j => .int (i.fmod j)
def rFdivN : R2 := rI CDivN fun i j => .int (i.fdiv j)
def rPowI : R2 := rI CPow fun i j => .int (i ^ j.toNat)
def rLtI : R2 := rI0 fun i j => .bl (decide (i < j))
def rLeI : R2 := rI0 fun i j => .bl (decide (i ≤ j))
def rGtI : R2 := rI0 fun i j => .bl (decide (j < i))
def rGeI : R2 := rI0 fun i j => .bl (decide (j ≤ i))
def rNegI : V → Hp → VK → Prop := rU fun i => .int (-i)
def rIsNn : R2 := fun x y H Q => y = .non ∧ Q (.bl (decide (x = .non))) H
def rNotNn : R2 := fun x y H Q => y = .non ∧ Q (.bl (!decide (x = .non))) H
theorem bt_len : bootBuiltins "len" = some (.builtin "len") := by decide +kernel
theorem bt_isinstance : bootBuiltins "isinstance" = some (.builtin "isinstance") := by decide +kernel
theorem bt_all : bootBuiltins "all" = some (.builtin "all") := by decide +kernel
theorem bt_any : bootBuiltins "any" = some (.builtin "any") := by decide +kernel
theorem bt_sum : bootBuiltins "sum" = some (.builtin "sum") := by decide +kernel
theorem bt_max : bootBuiltins "max" = some (.builtin "max") := by decide +kernel
theorem bt_min : bootBuiltins "min" = some (.builtin "min") := by decide +kernel
theorem bt_sorted : bootBuiltins "sorted" = some (.builtin "sorted") := by decide +kernel
theorem bt_repr : bootBuiltins "repr" = some (.builtin "repr") := by decide +kernel
theorem bt_int : bootBuiltins "int" = some (.type "int") := by decide +kernel
theorem bt_bool : bootBuiltins "bool" = some (.type "bool") := by decide +kernel
theorem bt_str : bootBuiltins "str" = some (.type "str") := by decide +kernel
theorem bt_list : bootBuiltins "list" = some (.type "list") := by decide +kernel
theorem bt_tuple : bootBuiltins "tuple" = some (.type "tuple") := by decide +kernel
section
variable {C : Cn} {s : S} {Φ : W → S → Prop} {ta tb te tc : TE}
theorem wpe_add (h : wpe C ta s fun w1 s1 => wpe C tb s1 fun w2 s2 => ∃ i j, w1 = .d (.int i) ∧ w2 = .d (.int j) ∧ Φ (.d (.int (i + j))) s2) : wpe C (tOp rAddI ta tb) s Φ := wpe_opI (f := fun i j => i + j) h
theorem wpe_sub (h : wpe C ta s fun w1 s1 => wpe C tb s1 fun w2 s2 => ∃ i j, w1 = .d (.int i) ∧ w2 = .d (.int j) ∧ Φ (.d (.int (i - j))) s2) : wpe C (tOp rSubI ta tb) s Φ := wpe_opI (f := fun i j => i - j) h
theorem wpe_mul (h : wpe C ta s fun w1 s1 => wpe C tb s1 fun w2 s2 => ∃ i j, w1 = .d (.int i) ∧ w2 = .d (.int j) ∧ CMul i j ∧ Φ (.d (.int (i * j))) s2) : wpe C (tOp rMulI ta tb) s Φ := wpe_opC (f := fun i j => i * j) h
theorem wpe_mod (h : wpe C ta s fun w1 s1 => wpe C tb s1 fun w2 s2 => ∃ i j, w1 = .d (.int i) ∧ w2 = .d (.int j) ∧ j ≠ 0 ∧ Φ (.d (.int (i.fmod j))) s2) : wpe C (tOp rModN ta tb) s Φ := wpe_opC (c := fun _ j => j ≠ 0) (f := fun i j => i.fmod j) h
theorem wpe_fdiv (h : wpe C ta s fun w1 s1 => wpe C tb s1 fun w2 s2 => ∃ i j, w1 = .d (.int i) ∧ w2 = .d (.int j) ∧ CDivN i j ∧ Φ (.d (.int (i.fdiv j))) s2) : wpe C (tOp rFdivN ta tb) s Φ := wpe_opC (f := fun i j => i.fdiv j) h
theorem wpe_pow (h : wpe C ta s fun w1 s1 => wpe C tb s1 fun w2 s2 => ∃ i j, w1 = .d (.int i) ∧ w2 = .d (.int j) ∧ CPow i j ∧ Φ (.d (.int (i ^ j.toNat))) s2) : wpe C (tOp rPowI ta tb) s Φ := wpe_opC (f := fun i j => i ^ j.toNat) h
theorem wpe_lt (h : wpe C ta s fun w1 s1 => wpe C tb s1 fun w2 s2 => ∃ i j, w1 = .d (.int i) ∧ w2 = .d (.int j) ∧ Φ (.d (.bool (decide (i < j)))) s2) : wpe C (tOp rLtI ta tb) s Φ := wpe_opB (f := fun i j => decide (i < j)) h
theorem wpe_le (h : wpe C ta s fun w1 s1 => wpe C tb s1 fun w2 s2 => ∃ i j, w1 = .d (.int i) ∧ w2 = .d (.int j) ∧ Φ (.d (.bool (decide (i ≤ j)))) s2) : wpe C (tOp rLeI ta tb) s Φ := wpe_opB (f := fun i j => decide (i ≤ j)) h
theorem wpe_gt (h : wpe C ta s fun w1 s1 => wpe C tb s1 fun w2 s2 => ∃ i j, w1 = .d (.int i) ∧ w2 = .d (.int j) ∧ Φ (.d (.bool (decide (j < i)))) s2) : wpe C (tOp rGtI ta tb) s Φ := wpe_opB (f := fun i j => decide (j < i)) h
theorem wpe_ge (h : wpe C ta s fun w1 s1 => wpe C tb s1 fun w2 s2 => ∃ i j, w1 = .d (.int i) ∧ w2 = .d (.int j) ∧ Φ (.d (.bool (decide (j ≤ i)))) s2) : wpe C (tOp rGeI ta tb) s Φ := wpe_opB (f := fun i j => decide (j ≤ i)) h
theorem wpe_chainLeLt (h : wpe C ta s fun w1 s1 => wpe C tb s1 fun w2 s2 => ∃ i j, w1 = .d (.int i) ∧ w2 = .d (.int j) ∧ (i ≤ j → wpe C tc s2 fun w3 s3 => ∃ k, w3 = .d (.int k) ∧ Φ (.d (.bool (decide (j < k)))) s3) ∧ (¬ i ≤ j → Φ (.d (.bool false)) s2)) : wpe C (tChain rLeI rLtI ta tb tc) s Φ :=
  wpe_chain (f := fun i j => decide (i ≤ j)) (g := fun i j => decide (i < j)) (h.imp fun w1 s1 h => h.imp fun w2 s2 ⟨i, j, e1, e2, k1, k2⟩ => ⟨i, j, e1, e2, fun e => k1 (of_decide_eq_true e), fun e => k2 (of_decide_eq_false e)⟩)
theorem wpe_chainLeLe (h : wpe C ta s fun w1 s1 => wpe C tb s1 fun w2 s2 => ∃ i j, w1 = .d (.int i) ∧ w2 = .d (.int j) ∧ (i ≤ j → wpe C tc s2 fun w3 s3 => ∃ k, w3 = .d (.int k) ∧ Φ (.d (.bool (decide (j ≤ k)))) s3) ∧ (¬ i ≤ j → Φ (.d (.bool false)) s2)) : wpe C (tChain rLeI rLeI ta tb tc) s Φ :=
  wpe_chain (f := fun i j => decide (i ≤ j)) (g := fun i j => decide (i ≤ j)) (h.imp fun w1 s1 h => h.imp fun w2 s2 ⟨i, j, e1, e2, k1, k2⟩ => ⟨i, j, e1, e2, fun e => k1 (of_decide_eq_true e), fun e => k2 (of_decide_eq_false e)⟩)
theorem wpe_neg (h : wpe C ta s fun w1 s1 => ∃ i, w1 = .d (.int i) ∧ Φ (.d (.int (-i))) s1) : wpe C (tUn rNegI ta) s Φ := fun F H σ pd wk hx a Q q =>
  h F H σ pd wk hx a _ fun v H1 w s1 ⟨i, e, k⟩ ⟨G, ps, a1⟩ => by
    subst e
    exact ⟨i, rp_int a1.top, q _ _ _ _ k ⟨G, ps, a1.pop.push (w := .d (.int (-i))) (.int _)⟩⟩
theorem wpe_isNn (h : wpe C ta s fun w s1 => ∃ b, w.isN = some b ∧ Φ (.d (.bool b)) s1) : wpe C (tOp rIsNn ta (tC .non)) s Φ := wpe_isN h
theorem wpe_notNn (h : wpe C ta s fun w s1 => ∃ b, w.isN = some b ∧ Φ (.d (.bool (!b))) s1) : wpe C (tOp rNotNn ta (tC .non)) s Φ := wpe_notN h
theorem wpe_ref {a : Addr} (k : Φ (.v (.ref a)) s) : wpe C (tC (.ref a)) s Φ := wpe_raw k
theorem wpe_ty {T : String} (k : Φ (.v (.ty T)) s) : wpe C (tC (.ty T)) s Φ := wpe_raw k
end

/-! ### 14. defs as they stand behind the top -/
theorem pe_gc {X : Cx} {x : Str} {pos : Pos} {v : V} (hg : Gl X x) (h : ∃ u, X.mg x = some u ∧ RelV v u) (hd : (x == ("__debug__" : Str)) = false := by decide) : PE X (.Name x pos) (tC v) := by
  obtain ⟨u, hm, r⟩ := h
  exact pe_glob hg hm r hd
def Cl (P : Program) (w : World) (K : PySem.W.Frag) (mg : Str → Option Value) (base : Heap) (CX : CXT) (k : Nat) (x : Str) (ps : List Str) (sp : Sp) : Prop :=
  ∃ (f : Addr) (fd : FuncData), FnOk P w K mg base CX k f fd ps sp ∧ mg x = some (.ref f) ∧ PySem.W.keepIn K (.ref f) = true ∧ Binds K fd ps []
theorem pe_cl {X : Cx} {CX : CXT} {j k : Nat} {x : Str} {ps : List Str} {sp : Sp} {E : XK} {e : Expr} {es : List Expr} {t : TA} {p pos : Pos} (c : Cl X.prog X.w X.K X.mg X.base CX k x ps sp) (hr : Room j X.A) (hk : k ≤ j) (hg : Gl X x) (hx : Passes CX X E) (ha : PA X (e :: es) t)
    (hdb : (x == ("__debug__" : Str)) = false := by decide) (he : starEach (e :: es) X.env = (false, eval e X.env) :: starEach es X.env := by rfl) (hpl : (backTo pos (starEach es X.env)).any (·.1) = false := by rfl) :
    PE X (.Call (.Name x p) (e :: es) [] pos) (tCall sp [] E t) := by
  obtain ⟨f, fd, F, hm, hkp, hb⟩ := c
  exact pe_call F (hr.mono hk) hg hm hkp hb .nil hx ha hdb he hpl
/-- an error class with an __init__ -/
def ClC (P : Program) (w : World) (K : PySem.W.Frag) (mg : Str → Option Value) (base : Heap) (C : Addr) (k : Nat) (x : Str) (sp : Sp) : Prop :=
  ∃ (fI : Addr) (fd : FuncData) (ps : List Str), OexC K C ∧ PySem.W.findIn K (.ref C) "__init__" = some (some (.ref fI)) ∧ PySem.W.typeIn K (.ref fI) = some (.type "function") ∧ FnOk P w K mg base CX0 k fI fd ps sp ∧ Binds K fd ps [] ∧ mg x = some (.ref C)
theorem pmk_cl {X : Cx} {j k : Nat} {x : Str} {C : Addr} {sp : Sp} {e : Expr} {es : List Expr} {ta : TA} {p pos : Pos} (c : ClC X.prog X.w X.K X.mg X.base C k x sp) (hr : Room j X.A) (hk : k + 1 ≤ j) (hg : Gl X x) (ha : PA X (e :: es) ta)
    (hdb : (x == ("__debug__" : Str)) = false := by decide) (he : starEach (e :: es) X.env = (false, eval e X.env) :: starEach es X.env := by rfl) (hpl : (backTo pos (starEach es X.env)).any (·.1) = false := by rfl) :
    PMk X (.Call (.Name x p) (e :: es) [] pos) (tMkO C sp [] ta) := by
  obtain ⟨fI, fd, ps, T, iC, tI, F, hb, hm⟩ := c
  exact pmk_oex T iC tI F (hr.mono hk) hb .nil pass0 hg hm ha hdb he hpl
def tRaiseD (C : Addr) (sp : Sp) (EX : XK) (ta : TA) : TS := fun _ σ H => tMkO C sp [] ta σ H fun cls d H' => EX cls d H'
/-- what the __init__ of an own error does: the fields are stored -/
def spXI (C : Addr) (fns : List Str) : Sp := fun vs H Q _ => ∃ (a : Addr) (us : List V), vs = .ref a :: us ∧ us.length = fns.length ∧ H a = some (exo a C none) ∧
  ∀ dx, H dx = none → dx ≠ a → Q .non (upd (upd H dx (exd dx (fns.zip us).reverse)) a (exo a C (some dx)))
theorem heap_end {H : Hp} {a dx : Addr} {o o1 : HO} {fs : List (Str × V)} (ha : H a = none) (hd : dx ≠ a) : upd (del (upd (upd (upd H a o) dx (exd dx fs)) a o1) a) dx (.xd fs) = upd H dx (.xd fs) := by
  funext b
  by_cases hb : b = dx
  · rw [hb, upd_same, upd_same]
  · rw [upd_ne hb, upd_ne hb]
    by_cases hba : b = a
    · rw [hba, del_same, ha]
    · rw [del_ne hba, upd_ne hba, upd_ne hb, upd_ne hba]
theorem rpf_zip {K : PySem.W.Frag} {cl : Str → Option Addr} {G : Hp} : ∀ {fns : List Str} {us : List V} {ds : List PyData}, RpL K cl G us ds → RpF K cl G (fns.zip us) ((fns.zip ds).map fun p => (.str p.1, p.2))
  | [], _, _, _ => by simpa using RpF.nil
  | _ :: _, _, _, .nil => by simpa using RpF.nil
  | f :: fns, _, _, .cons h r => .cons h (rpf_zip r)
theorem RpF.app {K : PySem.W.Frag} {cl : Str → Option Addr} {G : Hp} : ∀ {fs gs : List (Str × V)} {k1 k2 : List (PyData × PyData)}, RpF K cl G fs k1 → RpF K cl G gs k2 → RpF K cl G (fs ++ gs) (k1 ++ k2)
  | _, _, _, _, .nil, s => s
  | _, _, _, _, .cons h r, s => .cons h (RpF.app r s)
theorem RpF.rev {K : PySem.W.Frag} {cl : Str → Option Addr} {G : Hp} : ∀ {fs : List (Str × V)} {k1 : List (PyData × PyData)}, RpF K cl G fs k1 → RpF K cl G fs.reverse k1.reverse
  | _, _, .nil => .nil
  | _, _, .cons h r => by
    rw [List.reverse_cons, List.reverse_cons]
    exact RpF.app (RpF.rev r) (.cons h .nil)
def erOf (x : Str) (fns : List Str) (ds : List PyData) : Er := ⟨x, ((fns.zip ds).map fun p => (PyData.str p.1, p.2)).reverse⟩
theorem wps_raise {C : Cn} {s : S} {D : DE} {Ca : Addr} {x : Str} {fns : List Str} {ta : TA} (hC : C.cl x = some Ca) (h : wpa C ta s fun ws s1 => ∃ ds, ws = ds.map W.d ∧ ds.length = fns.length ∧ ds.length ≤ 1000 ∧ C.Psi (erOf x fns ds)) : wps C (tRaiseD Ca (spXI Ca fns) C.EX ta) s D := fun F H σ wk hx a E o =>
  h F H σ [] wk hx a _ fun vs H1 ws s1 ⟨ds, e, hl, hl2, k⟩ l ⟨G, ps, a1⟩ => by
    subst e
    have r := rpl_of (a1.args l)
    refine ⟨by rw [r.length]; exact hl2, fun p hp => ?_⟩
    rw [List.append_nil]
    refine ⟨p, vs, rfl, by rw [r.length]; exact hl, upd_same, fun dx hdx hne => ⟨rfl, dx, _, upd_same, by rw [upd_ne hne, upd_same], ?_, ?_⟩⟩
    · rw [upd_ne hne] at hdx
      exact hdx
    · have hdx1 : H1 dx = none := by
        rw [upd_ne hne] at hdx
        exact hdx
      rw [heap_end hp hne]
      exact exok_call hx a1.rest _ k Ca dx _ G _ hC (nw_raw (o := .xd _) a1.gh hdx1) upd_same hdx1 (rpf_zip r).rev
theorem wps_raise1 {C : Cn} {s : S} {D : DE} {Ca : Addr} {x : Str} {f : Str} {te : TE} (hC : C.cl x = some Ca) (h : wpe C te s fun w s1 => ∃ d, w = .d d ∧ C.Psi (erOf x [f] [d])) : wps C (tRaiseD Ca (spXI Ca [f]) C.EX (tCons te tNil)) s D :=
  wps_raise hC (wpa_cons (h.imp fun w s1 ⟨d, e, k⟩ => wpa_nil ⟨[d], by rw [e]; rfl, rfl, (by show 1 ≤ 1000; decide), k⟩))
theorem wps_raise2 {C : Cn} {s : S} {D : DE} {Ca : Addr} {x : Str} {f g : Str} {te tf : TE} (hC : C.cl x = some Ca) (h : wpe C te s fun w s1 => wpe C tf s1 fun w2 s2 => ∃ d d2, w = .d d ∧ w2 = .d d2 ∧ C.Psi (erOf x [f, g] [d, d2])) : wps C (tRaiseD Ca (spXI Ca [f, g]) C.EX (tCons te (tCons tf tNil))) s D :=
  wps_raise hC (wpa_cons (h.imp fun w s1 h => wpa_cons (h.imp fun w2 s2 ⟨d, d2, e, e2, k⟩ => wpa_nil ⟨[d, d2], by rw [e, e2]; rfl, rfl, (by show 2 ≤ 1000; decide), k⟩)))
theorem fun_cl {P : Program} {w : World} {K : PySem.W.Frag} {mg : Str → Option Value} {base : Heap} {CX : CXT} {k : Nat} {x qual : Str} {st : Stmt} {ps : List Str} {sp : Sp} {f : Addr} {fd : FuncData} (F : Fun K x qual st f fd) (ok : FnOk P w K mg base CX k f fd ps sp) (hm : mg x = some (.ref f))
    (hb : ∀ (kV doc pm : Value) (an : Option Addr) (cdv ct : Value) (us : List Value), us.length = ps.length → bindArgs (PySem.W.fnOf x qual (defArgs st) (defBody st) (defScope st) .none kV doc pm an cdv ct) ⟨us, []⟩ = pure (ps.zip us)) : Cl P w K mg base CX k x ps sp :=
  ⟨f, fd, ok, hm, F.kp, F.binds hb⟩

/-! ### 15. enumerate(a tuple) -/
end DL
namespace DLE
open PySem
open AutoSeq1 (wpAny_loadPart')
set_option maxHeartbeats 1000000 in
theorem meets_new1 {v : Value} {o : Obj} {H : Heap → Prop} (B : Begins v o H) :
    Meets (Builtin.«enumerate.__new__» ⟨[.type "enumerate", v], []⟩) (fun _ R s => H s.heap ∧
      R (.ok (.ret (.ref (s.heap.push o).objs.size))) { s with heap := (s.heap.push o).push { cls := .type "enumerate", data := .fields #[.none, .bool false, .ref s.heap.objs.size, rawInt 0, .none, .none] } }) :=
  .of_wp fun prog w A R s h => by
    obtain ⟨hp, g, d, tk, os⟩ := s
    obtain ⟨h1, h⟩ := h
    have hsub := sub_enumerate
    have q1 : ∀ {A' : Around} {E : Value → Shared → Prop} {Q : Value → Shared → Prop}, Q (.ref hp.objs.size) ⟨hp.push o, g, d, tk, os⟩ → wpAny (model prog w) A' (pyIter v) Q E ⟨hp, g, d, tk, os⟩ :=
      fun q => B.iter prog w _ _ ⟨hp, g, d, tk, os⟩ _ h1 q
    wp_walk using q1
    refine wpAny_stack_any fun st => wpAny_pure ?_
    split
    · rename_i c _ _ _ _ _
      cases (c == Value.type "enumerate")
      all_goals
        wp_walk using q1
        exact ⟨_, rfl, h⟩
    · wp_walk using q1
      exact ⟨_, rfl, h⟩
section
variable {prog : Program} {w : World} {A : Around} {E : Value → Shared → Prop} {s : Shared}
theorem enum_begins1 {v : Value} {o : Obj} {H : Heap → Prop} {Q : Value → Shared → Prop} (B : Begins v o H) (h1 : H s.heap)
    (h : ∀ h', IsEnum h' (s.heap.objs.size + 1) s.heap.objs.size 0 .none → h'.get? s.heap.objs.size = some o → h'.objs.size = s.heap.objs.size + 2 →
      (∀ b o, s.heap.get? b = some o → h'.get? b = some o) → Q (.ref (s.heap.objs.size + 1)) { s with heap := h' }) :
    wpAny (model prog w) A (call (.type "enumerate") [v]) Q E s := by
  refine callType_new F.called_enumerate (by decide) (F.typeCall_enumerate_1 _) (F.newCall_enumerate_1 _) (fun obj => F.args_object_init_2 obj _) F.entry_enumerate_new (meets_new1 B) ⟨h1, ?_⟩
  have hz : (s.heap.push o).objs.size = s.heap.objs.size + 1 := Heap.size_push ..
  show _ ∧ _
  rw [hz]
  have he : IsEnum ((s.heap.push o).push { cls := .type "enumerate", data := .fields #[.none, .bool false, .ref s.heap.objs.size, rawInt 0, .none, .none] }) (s.heap.objs.size + 1) s.heap.objs.size 0 .none := by
    have q := Heap.get?_push_size (s.heap.push o) (o := { cls := .type "enumerate", data := .fields #[.none, .bool false, .ref s.heap.objs.size, rawInt 0, .none, .none] }) rfl
    rw [hz] at q
    exact q
  exact ⟨⟨_, he, rfl⟩, h _ he (Heap.get?_push_of_some _ (Heap.get?_push_size _ B.free)) (by rw [Heap.size_push, hz]) fun b o x => Heap.get?_push_of_some _ (Heap.get?_push_of_some _ x)⟩
end
end DLE
namespace DL
open PySem L2 Evl PySem.Spec PyProof.Rows
/-- the tuple at a, each item in a new pair -/
def IteT (K : PySem.W.Frag) (a : Addr) : It :=
  ⟨fun i H => ∃ (xs : List V) (x : V), SqT K H a xs ∧ xs[i]? = some x, fun i H v H' => ∃ T x, v = .ref T ∧ H T = none ∧ H' = upd H T (.tup [.int (i : Nat), x]) ∧ ∀ xs, SqT K H a xs → xs[i]? = some x, fun i H => ∃ xs : List V, SqT K H a xs ∧ xs.length ≤ i⟩
theorem turn_enumT {P : Program} {w : World} {K : PySem.W.Frag} {elts : List Expr} {kk : Nat} {tpos : Pos} (a e it : Addr) :
    Turn P w K (.Tuple elts kk tpos) (IteT K a) [e, it] e (fun i h => (∃ old, IsEnum h e it ((i : Nat) : Int) old) ∧ h.IsTupleIter it a i ∧ e ≠ it) where
  mem := by simp
  obj := fun i h st b hb => by
    obtain ⟨⟨old, he⟩, ⟨o, ho, hc, hd⟩, _⟩ := st
    have e' : b = e ∨ b = it := by simpa using hb
    rcases e' with z | z
    · rw [z]
      exact ⟨_, he, fun v q => nomatch q⟩
    · rw [z]
      exact ⟨o, ho, fun v q => by rw [hd] at q; cases q⟩
  keep := fun i h h' st k => let ⟨⟨old, he⟩, hi, hne⟩ := st; ⟨⟨old, k e (by simp) _ he⟩, hi.at fun o q => k it (by simp) o q, hne⟩
  item := by
    intro X hP hw hK hc i pins s σ H E I hf st hg
    subst hP hw hK
    obtain ⟨⟨old, he⟩, hit, hne⟩ := st
    obtain ⟨xs, x, hq, hx⟩ := hg
    obtain ⟨its, rv, p, hz⟩ := I.tuple hq
    obtain ⟨u, hu, ru⟩ := rv.get hx
    have p' : s.heap.IsTuple a its.toArray := p
    have hel : e < s.heap.objs.size := Heap.lt_size he
    have hil : it < s.heap.objs.size := by
      obtain ⟨_, q, _⟩ := hit
      exact Heap.lt_size q
    have nai : a ≠ it := fun z => by
      obtain ⟨o, ho, hcl, _⟩ := hit
      obtain ⟨o2, ho2, hcl2, _⟩ := p'
      rw [z, ho] at ho2
      cases ho2
      rw [hcl] at hcl2
      injection hcl2 with hcl3
      exact absurd hcl3 (by decide)
    have nea : e ≠ a := fun z => by
      obtain ⟨o2, ho2, hcl2, _⟩ := p'
      rw [← z] at ho2
      have he' : s.heap.get? e = some _ := he
      rw [he'] at ho2
      cases ho2
      injection hcl2 with hcl3
      exact absurd hcl3 (by decide)
    have hlt : i < its.toArray.size := by
      have := (List.getElem?_eq_some_iff.mp hu).1
      simpa using this
    have hh : X.A.in1.handled = none := I.ok.hd hc
    refine wpAny_pyNext_enum_itemD (Draws.tuple hh it a nai its.toArray) he ⟨hit, p'⟩ hlt hne (by simp [hne, nea]) fun x' h' tk hx' ho hst hT hsz hk => ?_
    have hx2 : x' = u := by
      have h1 : its.toArray[i]? = some x' := hx'
      have h2 : its.toArray[i]? = some u := by simpa using hu
      rw [h1] at h2
      exact Option.some.inj h2
    subst hx2
    refine ⟨_, rfl, wpAny_letOwnedTupleGo_enum (s := { s with heap := h', toks := tk + 1 }) ho fun h'' he' sb => ?_⟩
    have hT2 : h''.get? s.heap.objs.size = some { cls := .type "tuple", data := .seq #[.int i tk, x'] } := (sb.2 _ (Nat.ne_of_gt hel)).trans hT
    have new : ObjOk X.prog X.w (upd H s.heap.objs.size (.tup [.int (i : Nat), x])) h'' s.heap.objs.size (.tup [.int (i : Nat), x]) :=
      ⟨by show 2 ≤ sizeLine; decide, [.int i tk, x'], .cons ⟨_, rfl⟩ (.cons ru .nil), ⟨_, hT2, rfl, _, rfl⟩⟩
    have I1 : L2.Inv X pins σ (upd H s.heap.objs.size (.tup [.int (i : Nat), x])) { s with heap := h'', toks := tk + 1 } :=
      I.turnedNew (ch := [e, it]) (fun b ob hb q => (sb.2 b (fun z => hb (by simp [z]))).trans (hk b ob (fun z => hb (by simp [z])) (fun z => hb (by simp [z])) q)) hf (Nat.le_refl _) new
    refine ⟨.ref s.heap.objs.size, _, I1, rfl, ⟨_, x, rfl, I.hok.fresh (Nat.le_refl _), rfl, fun ys hy => by rw [I.tuple_inj hy hq]; exact hx⟩, ⟨⟨x', ?_⟩, hst.1.at fun o q => (sb.2 it (Ne.symm hne)).trans q, hne⟩, fun b hb => ?_⟩
    · have e1 : ((i + 1 : Nat) : Int) = (i : Int) + 1 := by omega
      rw [e1]
      exact he'
    · have hb' : b < s.heap.objs.size := by
        have e' : b = e ∨ b = it := by simpa using hb
        rcases e' with z | z
        · rw [z]
          exact hel
        · rw [z]
          exact hil
      rw [upd_ne (Nat.ne_of_lt hb')]
      exact (hf b hb).1
  done := by
    intro X hP hw hK hc i pins s σ H E I hf st hg
    subst hP hw hK
    obtain ⟨⟨old, he⟩, hit, hne⟩ := st
    obtain ⟨xs, hq, hx⟩ := hg
    obtain ⟨its, rv, p, hz⟩ := I.tuple hq
    have p' : s.heap.IsTuple a its.toArray := p
    obtain ⟨f0, f1, f2, f3, f4, f5⟩ := hf it (by simp)
    have nai : a ≠ it := fun z => by
      obtain ⟨o, ho, hcl, _⟩ := hit
      obtain ⟨o2, ho2, hcl2, _⟩ := p'
      rw [z, ho] at ho2
      cases ho2
      rw [hcl] at hcl2
      injection hcl2 with hcl3
      exact absurd hcl3 (by decide)
    have hl := rv.length
    have hh : X.A.in1.handled = none := I.ok.hd hc
    have hx2 : its.toArray[i]? = none := by
      rw [List.getElem?_toArray]
      exact List.getElem?_eq_none_iff.mpr (by omega)
    have D : Draws X.prog X.w X.A.in1 it [it, a] i (fun _ _ => True) (fun j h => j = i ∧ h.IsTupleIter it a i ∧ h.IsTuple a its.toArray) := {
      live := fun _ _ st => let ⟨o, ho, _⟩ := st.2.1; ⟨o, ho⟩
      frame := fun _ _ _ st hk => ⟨st.1, st.2.1.at fun o e => hk it (by simp) o e, st.2.2.at fun o e => hk a (by simp) o e⟩
      item := fun j s Q E hj st hQ => absurd st.1 (Nat.ne_of_lt hj)
      done := fun s Q E st hE => wpAny_nextOf_tuple_end hh st.2.1 st.2.2 hx2 hE }
    exact wpAny_pyNext_enum_endD D he ⟨rfl, hit, p'⟩ fun h' eb => ⟨rfl, I.turned (t' := s.toks) (fun b o hb q => eb b o hb q) f0 f1 f3 f4 f5⟩
  self := fun A i s Q E st h => let ⟨⟨_, he⟩, _⟩ := st; wpAny_pyIter_enum he h
def iEnumT (K : PySem.W.Frag) (ta : TA) : TI := fun σ H R => ta σ H fun vs H1 => ∃ a xs, vs = [.ref a] ∧ SqT K H1 a xs ∧ R (IteT K a) H1
theorem boot_enum : bootBuiltins "enumerate" = some (.type "enumerate") := by decide +kernel
theorem pi_enumT {X : Cx} {e : Expr} {ta : TA} {p pos tpos : Pos} {elts : List Expr} {kk : Nat} (hg : Gl X "enumerate") (hm : X.mg "enumerate" = none) (ha : PA X [e] ta) (hs : starEach [e] X.env = [(false, eval e X.env)] := by rfl) :
    PI X (.Tuple elts kk tpos) (.Call (.Name "enumerate" p) [e] [] pos) (iEnumT X.K ta) := by
  refine ⟨fun pins s σ H R I h => ?_⟩
  refine Call_ (ld_blt I hg hm boot_enum (PyProof.Rows.callWith_type1 (thn (ha.run pos pins s σ H _ I h) fun us s1 ⟨vs, H1, I1, r1, q1⟩ => ?_) hs rfl))
  obtain ⟨a, xs, ex, hq, q⟩ := q1
  subst ex
  cases r1 with
  | cons r rr =>
    cases rr
    cases r
    obtain ⟨its, rv, p', hz⟩ := I1.tuple hq
    have p2 : s1.heap.IsTuple a its.toArray := p'
    refine DLE.enum_begins1 (begins_tuple a its.toArray) p2 fun h' he hit hsz hk => wpAny_pyIter_enum he ?_
    have I2 : L2.Inv X pins σ H1 { s1 with heap := h' } := I1.kept (t' := s1.toks) hk
    refine ⟨s1.heap.objs.size + 1, [s1.heap.objs.size + 1, s1.heap.objs.size], _, _, H1, rfl, I2, turn_enumT a (s1.heap.objs.size + 1) s1.heap.objs.size, ⟨⟨.none, he⟩, ⟨_, hit, rfl, rfl⟩, Nat.succ_ne_self _⟩, fun b hb => ?_, q⟩
    have e' : b = s1.heap.objs.size + 1 ∨ b = s1.heap.objs.size := by simpa using hb
    have hle : s1.heap.objs.size ≤ b := by
      rcases e' with z | z
      · rw [z]
        exact Nat.le_add_right _ _
      · rw [z]
        exact Nat.le_refl _
    exact I1.fpOk hle (I1.hok.fresh hle)
/-- a list or a tuple -/
def iEnumA (K : PySem.W.Frag) (ta : TA) : TI := fun σ H R => ta σ H fun vs H1 => ∃ a xs, vs = [.ref a] ∧ ((SqL K H1 a xs ∧ R (Ite K a) H1) ∨ (SqT K H1 a xs ∧ R (IteT K a) H1))
theorem pi_enumA {X : Cx} {e : Expr} {ta : TA} {p pos tpos : Pos} {elts : List Expr} {kk : Nat} (hg : Gl X "enumerate") (hm : X.mg "enumerate" = none) (ha : PA X [e] ta) (hs : starEach [e] X.env = [(false, eval e X.env)] := by rfl) :
    PI X (.Tuple elts kk tpos) (.Call (.Name "enumerate" p) [e] [] pos) (iEnumA X.K ta) := by
  refine ⟨fun pins s σ H R I h => ?_⟩
  refine Call_ (ld_blt I hg hm boot_enum (PyProof.Rows.callWith_type1 (thn (ha.run pos pins s σ H _ I h) fun us s1 ⟨vs, H1, I1, r1, q1⟩ => ?_) hs rfl))
  obtain ⟨a, xs, ex, q1⟩ := q1
  subst ex
  cases r1 with
  | cons r rr =>
    cases rr
    cases r
    have fp : ∀ b ∈ [s1.heap.objs.size + 1, s1.heap.objs.size], FpOk X pins H1 b := fun b hb => by
      have e' : b = s1.heap.objs.size + 1 ∨ b = s1.heap.objs.size := by simpa using hb
      have hle : s1.heap.objs.size ≤ b := by
        rcases e' with z | z
        · rw [z]
          exact Nat.le_add_right _ _
        · rw [z]
          exact Nat.le_refl _
      exact I1.fpOk hle (I1.hok.fresh hle)
    rcases q1 with ⟨hq, q⟩ | ⟨hq, q⟩
    · obtain ⟨its, rv, p', hz⟩ := I1.list hq
      refine DLE.enum_begins1 (begins_list a its.toArray) p'.isList fun h' he hit hsz hk => wpAny_pyIter_enum he ?_
      exact ⟨s1.heap.objs.size + 1, [s1.heap.objs.size + 1, s1.heap.objs.size], _, _, H1, rfl, I1.kept (t' := s1.toks) hk, turn_enum a (s1.heap.objs.size + 1) s1.heap.objs.size, ⟨⟨.none, he⟩, ⟨_, hit, rfl, rfl⟩, Nat.succ_ne_self _⟩, fp, q⟩
    · obtain ⟨its, rv, p', hz⟩ := I1.tuple hq
      have p2 : s1.heap.IsTuple a its.toArray := p'
      refine DLE.enum_begins1 (begins_tuple a its.toArray) p2 fun h' he hit hsz hk => wpAny_pyIter_enum he ?_
      exact ⟨s1.heap.objs.size + 1, [s1.heap.objs.size + 1, s1.heap.objs.size], _, _, H1, rfl, I1.kept (t' := s1.toks) hk, turn_enumT a (s1.heap.objs.size + 1) s1.heap.objs.size, ⟨⟨.none, he⟩, ⟨_, hit, rfl, rfl⟩, Nat.succ_ne_self _⟩, fp, q⟩
section
variable {C : Cn} {s : S} {te : TE} {K : PySem.W.Frag} {cl : Str → Option Addr} {Φ : List PyData → S → Prop}
theorem walk_enumT {a : Addr} {items : List PyData} {G : Hp} (r : Rp K cl G (.ref a) (.tuple items)) : WalkD K cl (IteT K a) (enumD items) G := by
  cases r with
  | @tup _ vs _ ha rl =>
    intro i G3 H e1 e2
    have hq : SqT K H a vs := ex_t e2 (ex_t e1 ha)
    refine ⟨fun d hd => ?_, fun hl => ⟨vs, hq, by rw [rl.length]; rw [enumD_len] at hl; exact hl⟩⟩
    obtain ⟨z, hz, rfl⟩ := enumD_get hd
    obtain ⟨v, hv, rv⟩ := rl.get hz
    refine ⟨⟨vs, v, hq, hv⟩, fun x H' ⟨T, y, ex, hT, eH, hy⟩ => ?_⟩
    subst eH ex
    have := hy vs hq
    rw [hv] at this
    cases this
    have n := nw_new (o := .tup [.int (i : Nat), v]) e2 hT
    exact ⟨_, n, .tup (st_of upd_same) (.cons (.int _) (.cons ((rv.mono e1).mono n.gg) .nil))⟩
theorem wpi_enumT {ta : TA} (h : wpa C ta s fun ws s1 => ∃ ds, ws = [.d (.tuple ds)] ∧ Φ (enumD ds) s1) : wpi C (iEnumT C.K ta) s Φ := fun F H σ pd wk hx a R q =>
  h F H σ pd wk hx a _ fun vs H1 ws s1 ⟨ds, e, k⟩ l ⟨G, ps, a1⟩ => by
    subst e
    obtain ⟨v, rfl⟩ := one_arg l
    obtain ⟨p, vs, rfl, hp⟩ := rp_tupref (show Rp C.K C.cl G v (.tuple ds) from a1.top)
    exact ⟨p, vs, rfl, ex_t a1.gh hp, q _ _ _ s1 k ⟨G, ps, a1.pop.walk WalkD.mono (walk_enumT a1.top)⟩⟩
/-- a row: a list or a tuple of these data -/
def IsRow (d : PyData) (ds : List PyData) : Prop := d = .list ds ∨ d = .tuple ds
theorem wpi_enumA {ta : TA} (h : wpa C ta s fun ws s1 => ∃ d ds, ws = [.d d] ∧ IsRow d ds ∧ Φ (enumD ds) s1) : wpi C (iEnumA C.K ta) s Φ := fun F H σ pd wk hx a R q =>
  h F H σ pd wk hx a _ fun vs H1 ws s1 ⟨d, ds, e, hr, k⟩ l ⟨G, ps, a1⟩ => by
    subst e
    obtain ⟨v, rfl⟩ := one_arg l
    rcases hr with e | e
    · subst e
      obtain ⟨p, vs, rfl, hp⟩ := rp_listref (show Rp C.K C.cl G v (.list ds) from a1.top)
      exact ⟨p, vs, rfl, .inl ⟨sq_of (a1.gh _ _ hp), q _ _ _ s1 k ⟨G, ps, a1.pop.walk WalkD.mono (walk_enum a1.top)⟩⟩⟩
    · subst e
      obtain ⟨p, vs, rfl, hp⟩ := rp_tupref (show Rp C.K C.cl G v (.tuple ds) from a1.top)
      exact ⟨p, vs, rfl, .inr ⟨ex_t a1.gh hp, q _ _ _ s1 k ⟨G, ps, a1.pop.walk WalkD.mono (walk_enumT a1.top)⟩⟩⟩
end
end DL
set_option Elab.async false
set_option linter.all false
set_option maxRecDepth 100000
set_option maxHeartbeats 2000000
namespace DL
open PySem L2 Evl
/-! ### 16. isinstance of plain data -/
def tyS : PyData → String
  | .none => "NoneType"
  | .bool _ => "bool"
  | .int _ => "int"
  | .str _ => "str"
  | .list _ => "list"
  | .tuple _ => "tuple"
  | .dict _ => ""
def ty (d : PyData) : Prop := tyD d = some (tyS d)
def tyB : PyData → Bool
  | .dict _ => false
  | _ => true
theorem ty_of {d : PyData} (h : tyB d = true) : ty d := by
  cases d <;> first | rfl | (simp [tyB] at h)
def kT (t T : String) : Bool := t == T || (t == "bool" && T == "int")
theorem kitB_eq : ∀ t ∈ ["NoneType", "bool", "int", "str", "list", "tuple"], ∀ T ∈ ["int", "bool", "list", "tuple", "str"], kitB t T = some (kT t T) := by decide +kernel
theorem kit_d {d : PyData} {T : String} (h : ty d) (hT : T ∈ ["int", "bool", "list", "tuple", "str"]) : kitB (tyS d) T = some (kT (tyS d) T) := by
  have hm : tyS d ∈ ["NoneType", "bool", "int", "str", "list", "tuple"] := by
    cases d with
    | dict kvs =>
      have z : (none : Option String) = some "" := h
      cases z
    | _ => simp [tyS]
  exact kitB_eq _ hm _ hT
section
variable {C : Cn} {s : S} {Φ : W → S → Prop} {ta : TE}
theorem wpe_isiI {T : String} (hT : T ∈ ["int", "bool", "list", "tuple", "str"]) (h : wpe C ta s fun w s1 => ∃ d, w = .d d ∧ ty d ∧ Φ (.d (.bool (kT (tyS d) T))) s1) : wpe C (tCB (rIsi C.K) (tCons ta (tCons (tC (.ty T)) tNil))) s Φ :=
  wpe_isi (wpa_cons (h.imp fun w s1 ⟨d, e, hd, k⟩ => wpa_cons (wpe_ty (wpa_nil ⟨d, T, _, _, by rw [e], hd, kit_d hd hT, k⟩))))
theorem wpe_isiR (h : wpe C ta s fun w s1 => ∃ d, w = .d d ∧ ty d ∧ Φ (.d (.bool (kT (tyS d) "list" || kT (tyS d) "tuple"))) s1) : wpe C (tCB (rIsiT C.K) (tCons ta (tCons (tTup (tCons (tC (.ty "list")) (tCons (tC (.ty "tuple")) tNil))) tNil))) s Φ :=
  wpe_isi2 (h.imp fun w s1 ⟨d, e, hd, k⟩ => ⟨d, _, _, _, e, hd, kit_d hd (by simp), kit_d hd (by simp), k⟩)
end
/-! ### 17. outcomes of defs -/
def outc (r : Except Er PyData) (Φ : PyData → Prop) (Ψ : Er → Prop) : Prop := match r with
  | .ok d => Φ d
  | .error e => Ψ e
abbrev DD (Φ : PyData → Prop) : DE := { nx := fun _ => Φ .none, rt := fun w _ => ∃ d, w = .d d ∧ Φ d }
def iL (xs : List Int) : List PyData := xs.map .int
theorem iL_len (xs : List Int) : (iL xs).length = xs.length := List.length_map _
theorem frz_map {k : Nat} {ds xs : List PyData} : (xs.map W.d).map (W.frz k ds) = xs.map W.d := by
  induction xs with
  | nil => rfl
  | cons x xs ih =>
    rw [List.map_cons, List.map_cons, ih]
    rfl
theorem wps_frz2 {C : Cn} {t : TS} {s : S} {D : DE} {ds es : List PyData} (hm : s.ms = [some (ds.map .d), some (es.map .d)]) (h : wps C t ⟨(s.sl.map (W.frz 0 ds)).map (W.frz 1 es), [none, none], s.c⟩ D) : wps C t s D := by
  obtain ⟨sl, ms, c⟩ := s
  subst hm
  refine wps_frz (ds := ds) 0 rfl ?_
  refine wps_frz (ds := es) 1 (by show some (some ((es.map W.d).map (W.frz 0 ds))) = _; rw [frz_map]) ?_
  exact h
theorem filter_tt {α : Type} (xs : List α) : xs.filter (fun _ => true) = xs := by simp
section
variable {C : Cn} {s : S} {Φ : W → S → Prop} {ta tb tc td : TE} {Wd : Wf} {E : XK}
theorem wpe_cA1 (h : wpe C ta s fun w1 s1 => ∃ d1, w1 = .d d1 ∧ Wd [d1] (fun d => Φ (.d d) s1) C.Psi) : wpe C (tCall (spP C.K C.cl Wd) [] C.EX (tCons ta tNil)) s Φ :=
  wpe_call (wpa_cons (h.imp fun w1 s1 ⟨d1, e1, k⟩ => wpa_nil ⟨[d1], by rw [e1]; rfl, k⟩))
theorem wpe_cA2 (h : wpe C ta s fun w1 s1 => wpe C tb s1 fun w2 s2 => ∃ d1 d2, w1 = .d d1 ∧ w2 = .d d2 ∧ Wd [d1, d2] (fun d => Φ (.d d) s2) C.Psi) : wpe C (tCall (spP C.K C.cl Wd) [] C.EX (tCons ta (tCons tb tNil))) s Φ :=
  wpe_call (wpa_cons (h.imp fun w1 s1 h => wpa_cons (h.imp fun w2 s2 ⟨d1, d2, e1, e2, k⟩ => wpa_nil ⟨[d1, d2], by rw [e1, e2]; rfl, k⟩)))
theorem wpe_cA3 (h : wpe C ta s fun w1 s1 => wpe C tb s1 fun w2 s2 => wpe C tc s2 fun w3 s3 => ∃ d1 d2 d3, w1 = .d d1 ∧ w2 = .d d2 ∧ w3 = .d d3 ∧ Wd [d1, d2, d3] (fun d => Φ (.d d) s3) C.Psi) : wpe C (tCall (spP C.K C.cl Wd) [] C.EX (tCons ta (tCons tb (tCons tc tNil)))) s Φ :=
  wpe_call (wpa_cons (h.imp fun w1 s1 h => wpa_cons (h.imp fun w2 s2 h => wpa_cons (h.imp fun w3 s3 ⟨d1, d2, d3, e1, e2, e3, k⟩ => wpa_nil ⟨[d1, d2, d3], by rw [e1, e2, e3]; rfl, k⟩))))
theorem wpe_cB1 (h : wpe C ta s fun w1 s1 => ∃ d1, w1 = .d d1 ∧ Wd [d1] (fun d => Φ (.d d) s1) (fun _ => False)) : wpe C (tCall (spP C.K C.cl Wd) [] E (tCons ta tNil)) s Φ :=
  wpe_call0 (wpa_cons (h.imp fun w1 s1 ⟨d1, e1, k⟩ => wpa_nil ⟨[d1], by rw [e1]; rfl, k⟩))
theorem wpe_cB2 (h : wpe C ta s fun w1 s1 => wpe C tb s1 fun w2 s2 => ∃ d1 d2, w1 = .d d1 ∧ w2 = .d d2 ∧ Wd [d1, d2] (fun d => Φ (.d d) s2) (fun _ => False)) : wpe C (tCall (spP C.K C.cl Wd) [] E (tCons ta (tCons tb tNil))) s Φ :=
  wpe_call0 (wpa_cons (h.imp fun w1 s1 h => wpa_cons (h.imp fun w2 s2 ⟨d1, d2, e1, e2, k⟩ => wpa_nil ⟨[d1, d2], by rw [e1, e2]; rfl, k⟩)))
theorem wpe_cB3 (h : wpe C ta s fun w1 s1 => wpe C tb s1 fun w2 s2 => wpe C tc s2 fun w3 s3 => ∃ d1 d2 d3, w1 = .d d1 ∧ w2 = .d d2 ∧ w3 = .d d3 ∧ Wd [d1, d2, d3] (fun d => Φ (.d d) s3) (fun _ => False)) : wpe C (tCall (spP C.K C.cl Wd) [] E (tCons ta (tCons tb (tCons tc tNil)))) s Φ :=
  wpe_call0 (wpa_cons (h.imp fun w1 s1 h => wpa_cons (h.imp fun w2 s2 h => wpa_cons (h.imp fun w3 s3 ⟨d1, d2, d3, e1, e2, e3, k⟩ => wpa_nil ⟨[d1, d2, d3], by rw [e1, e2, e3]; rfl, k⟩))))
theorem wpe_cB4 (h : wpe C ta s fun w1 s1 => wpe C tb s1 fun w2 s2 => wpe C tc s2 fun w3 s3 => wpe C td s3 fun w4 s4 => ∃ d1 d2 d3 d4, w1 = .d d1 ∧ w2 = .d d2 ∧ w3 = .d d3 ∧ w4 = .d d4 ∧ Wd [d1, d2, d3, d4] (fun d => Φ (.d d) s4) (fun _ => False)) : wpe C (tCall (spP C.K C.cl Wd) [] E (tCons ta (tCons tb (tCons tc (tCons td tNil))))) s Φ :=
  wpe_call0 (wpa_cons (h.imp fun w1 s1 h => wpa_cons (h.imp fun w2 s2 h => wpa_cons (h.imp fun w3 s3 h => wpa_cons (h.imp fun w4 s4 ⟨d1, d2, d3, d4, e1, e2, e3, e4, k⟩ => wpa_nil ⟨[d1, d2, d3, d4], by rw [e1, e2, e3, e4]; rfl, k⟩)))))
theorem wpe_cB5 {te : TE} (h : wpe C ta s fun w1 s1 => wpe C tb s1 fun w2 s2 => wpe C tc s2 fun w3 s3 => wpe C td s3 fun w4 s4 => wpe C te s4 fun w5 s5 => ∃ d1 d2 d3 d4 d5, w1 = .d d1 ∧ w2 = .d d2 ∧ w3 = .d d3 ∧ w4 = .d d4 ∧ w5 = .d d5 ∧ Wd [d1, d2, d3, d4, d5] (fun d => Φ (.d d) s5) (fun _ => False)) : wpe C (tCall (spP C.K C.cl Wd) [] E (tCons ta (tCons tb (tCons tc (tCons td (tCons te tNil)))))) s Φ :=
  wpe_call0 (wpa_cons (h.imp fun w1 s1 h => wpa_cons (h.imp fun w2 s2 h => wpa_cons (h.imp fun w3 s3 h => wpa_cons (h.imp fun w4 s4 h => wpa_cons (h.imp fun w5 s5 ⟨d1, d2, d3, d4, d5, e1, e2, e3, e4, e5, k⟩ => wpa_nil ⟨[d1, d2, d3, d4, d5], by rw [e1, e2, e3, e4, e5]; rfl, k⟩))))))
end
end DL
set_option Elab.async false
set_option linter.all false
set_option maxRecDepth 100000
set_option maxHeartbeats 2000000
namespace DL
open PySem L2 Evl
/-! ### 18. instances -/
def fD (fs : List (Str × PyData)) : List (PyData × PyData) := fs.map fun p => (.str p.1, p.2)
def inst (cn : Str) (fs : List (Str × PyData)) : PyData := .dict ((.str cn, .none) :: fD fs)
/-- what the text says of an own class -/
structure OwnC (K : PySem.W.Frag) (cl : Str → Option Addr) (cn : Str) (Ca : Addr) (fns : List Str) : Prop where
  cl : cl cn = some Ca
  hd : Cls K Ca
  na : ∀ f ∈ fns, NoAttr K Ca f
structure IsiC (K : PySem.W.Frag) (Ca : Addr) : Prop where
  ha : PySem.W.findIn K (.ref Ca) "__class__" = some (some (.builtin "object.__class__"))
  hn : PySem.W.specialIn K (.builtin "object.__class__") "__get__" = some (some (.builtin "getset_descriptor.__get__"))
  htk : PySem.W.takesIn K (.builtin "object.__class__") = some true
  hm : PySem.W.mroIn K Ca (.type "object") = some true
theorem rpf_lookup {K : PySem.W.Frag} {cl : Str → Option Addr} {G : Hp} {f : Str} {d : PyData} : ∀ {fs : List (Str × V)} {fd : List (Str × PyData)}, RpF K cl G fs (fD fd) → fd.lookup f = some d → ∃ v, fs.lookup f = some v ∧ Rp K cl G v d
  | _, [], h, e => by simp at e
  | _, (g, x) :: fd, h, e => by
    cases h with
    | cons h r =>
      by_cases hg : f = g
      · subst hg
        simp at e
        subst e
        exact ⟨_, by simp, h⟩
      · have hb : (f == g) = false := by simpa using hg
        simp only [List.lookup, hb] at e
        obtain ⟨v, h1, h2⟩ := rpf_lookup r e
        exact ⟨v, by simp only [List.lookup, hb]; exact h1, h2⟩
def putD (f : Str) (d : PyData) : List (Str × PyData) → List (Str × PyData)
  | [] => [(f, d)]
  | (g, x) :: r => if g = f then (g, d) :: r else (g, x) :: putD f d r
theorem rpf_put {K : PySem.W.Frag} {cl : Str → Option Addr} {G : Hp} {f : Str} {v : V} {d : PyData} (r : Rp K cl G v d) : ∀ {fs : List (Str × V)} {fd : List (Str × PyData)}, RpF K cl G fs (fD fd) → RpF K cl G (putF f v fs) (fD (putD f d fd))
  | _, [], h => by
    cases h
    exact .cons r .nil
  | _, (g, x) :: fd, h => by
    cases h with
    | @cons _ v0 _ fs0 _ h r2 =>
      show RpF K cl G (if g = f then (g, v) :: fs0 else (g, v0) :: putF f v fs0) (fD (if g = f then (g, d) :: fd else (g, x) :: putD f d fd))
      by_cases hg : g = f
      · rw [if_pos hg, if_pos hg]
        exact .cons r r2
      · rw [if_neg hg, if_neg hg]
        exact .cons h (rpf_put r r2)
theorem rpf_len {K : PySem.W.Frag} {cl : Str → Option Addr} {G : Hp} : ∀ {fs : List (Str × V)} {kvs : List (PyData × PyData)}, RpF K cl G fs kvs → fs.length = kvs.length
  | _, _, .nil => rfl
  | _, _, .cons _ r => congrArg (· + 1) (rpf_len r)
section
variable {C : Cn} {s : S} {Φ : W → S → Prop} {ta te : TE} {cn f : Str} {Ca : Addr} {fns : List Str}
theorem wpe_fld (O : OwnC C.K C.cl cn Ca fns) (hf : f ∈ fns) (h : wpe C ta s fun w s1 => ∃ fs d, w = .d (inst cn fs) ∧ fs.lookup f = some d ∧ Φ (.d d) s1) : wpe C (tFld C.K ta f) s Φ := fun F H σ pd wk hx a Q q =>
  h F H σ pd wk hx a _ fun v H1 w s1 ⟨fs, d, e, el, k⟩ ⟨G, ps, a1⟩ => by
    subst e
    have r : Rp C.K C.cl G v (inst cn fs) := a1.top
    cases r with
    | @ins a C' dx _ fv _ hc ha hr =>
      have ec : C' = Ca := by
        rw [O.cl] at hc
        exact (Option.some.inj hc).symm
      subst ec
      obtain ⟨u, hu, ru⟩ := rpf_lookup hr el
      exact ⟨a, C', dx, fv, u, rfl, a1.gh _ _ ha, O.hd, O.na f hf, hu, q u H1 _ s1 k ⟨G, ps, a1.pop.push (w := .d d) ru⟩⟩
theorem wpe_isiO (O : OwnC C.K C.cl cn Ca fns) (I : IsiC C.K Ca) (h : wpe C ta s fun w s1 => ∃ fs, w = .d (inst cn fs) ∧ Φ (.d (.bool true)) s1) : wpe C (tCB (rIsi C.K) (tCons ta (tCons (tC (.ref Ca)) tNil))) s Φ :=
  wpe_cb (wpa_cons (h.imp fun w s1 ⟨fs, e, k⟩ => wpa_cons (wpe_ref (wpa_nil fun F H σ vs pd wk l ⟨G, ps, a⟩ Q q => by
    subst e
    obtain ⟨v, u, rfl⟩ := two_args l
    have e2 : u = .ref Ca := a.pop.top
    subst e2
    have r : Rp C.K C.cl G v (inst cn fs) := a.top
    have a3 := a.pop.pop
    cases r with
    | @ins b C' dx _ fv _ hc ha hr =>
      have ec : C' = Ca := by
        rw [O.cl] at hc
        exact (Option.some.inj hc).symm
      subst ec
      refine ⟨.ref b, .ref C', .ref C', .ref C', true, rfl, .own C', .base (.ins (a.gh _ _ ha) O.hd I.ha I.hn I.htk I.hm), ?_, q _ _ _ s1 k ⟨G, ps, a3.push (w := .d (.bool true)) (.bl true)⟩⟩
      unfold PySem.W.kitOne
      rw [if_pos (by simp)]))))
end
/-! ### 19. an instance is made -/
/-- the object at a, of class Ca, at stage c: its fields bear what st c says -/
def objPn (K : PySem.W.Frag) (cl : Str → Option Addr) (a Ca dx : Addr) (st : Nat → List (Str × PyData)) : Pn where
  P := a
  X := fun b => b = a
  pen := fun c G H => ∃ fs, H a = some (.ins Ca dx fs) ∧ RpF K cl G fs (fD (st c))
  px := fun c G G' H H' e h ⟨fs, h1, h2⟩ => ⟨fs, h a _ h1 (.inl rfl), RpF.mono e h2⟩
  pe := fun c G H b ⟨fs, h1, _⟩ hb => by
    rw [hb, h1]
    exact fun z => nomatch z
/-- the promise of an __init__: the object is made, Φ of it holds -/
def spI (K : PySem.W.Frag) (cl : Str → Option Addr) (cn : Str) (Ca : Addr) (Wd : Wf) : Sp := fun vs H Q E => ∃ (a dx : Addr) (us : List V) (G : Hp) (ds : List PyData) (Φ : PyData → Prop) (Ψ : Er → Prop), vs = .ref a :: us ∧ H a = some (.ins Ca dx []) ∧ G a = none ∧ Ex G H ∧ RpL K cl G us ds ∧ Wd ds Φ Ψ ∧
  (∀ fd fs G2 H2, Φ (inst cn fd) → Ex G G2 → Ex G2 H2 → (∀ b o, b ≠ a → H b = some o → H2 b = some o) → (∀ b, H b ≠ none → G b = none → G2 b = none) → H2 a = some (.ins Ca dx fs) → RpF K cl G2 fs (fD fd) → Q .non H2) ∧
  (∀ er, Ψ er → ∀ (Ce de : Addr) (fs : List (Str × V)) (G2 H2 : Hp), cl er.c = some Ce → Ex G G2 → Ex G2 H2 → (∀ b o, b ≠ a → H b = some o → H2 b = some o) → (∀ b, H b ≠ none → G b = none → G2 b = none) → H2 de = some (.xd fs) → H de = none → RpF K cl G2 fs er.fs → E (.ref Ce) (some de) H2)
section
variable {C : Cn} {s : S} {Φ : W → S → Prop} {cn : Str} {Ca : Addr}
theorem wpe_mkE {Wd : Wf} {EX : XK} {Ps : Er → Prop} {ta : TA} (O : C.cl cn = some Ca) (hE : ∀ (F : Fr) (G : Hp) (ps : List Addr) (H : Hp) (σ : L2.St) (s1 : S) (pd : List (V × W)) (wk : List (Hp → Prop)), EXok C F → AtG C F G ps H σ s1 pd wk → ∀ er, Ps er → ∀ (Ce de : Addr) (fs : List (Str × V)) (G2 H2 : Hp), C.cl er.c = some Ce → Nw G H G2 H2 → H2 de = some (.xd fs) → H de = none → RpF C.K C.cl G2 fs er.fs → EX (.ref Ce) (some de) H2)
    (h : wpa C ta s fun ws s1 => ∃ ds : List PyData, ws = ds.map W.d ∧ Wd ds (fun d => (∃ fd, d = inst cn fd) → Φ (.d d) s1) Ps) : wpe C (tMake Ca (spI C.K C.cl cn Ca Wd) [] EX ta) s Φ := fun F H σ pd wk hx a Q q =>
  h F H σ pd wk hx a _ fun vs H1 ws s1 ⟨ds, e, hw⟩ l ⟨G, ps, a1⟩ x dx hx1 hd1 hne => by
    subst e
    rw [List.append_nil]
    have gx : G x = none := by
      cases e : G x with
      | none => rfl
      | some o =>
        have := a1.gh x o e
        rw [hx1] at this
        cases this
    have gd : G dx = none := by
      cases e : G dx with
      | none => rfl
      | some o =>
        have := a1.gh dx o e
        rw [hd1] at this
        cases this
    have old : ∀ {b : Addr} {o : HO}, H1 b = some o → (upd (upd H1 dx (.own x)) x (.ins Ca dx [])) b = some o := fun {b o} hb => by
      rw [upd_ne (fun z => by rw [z, hx1] at hb; cases hb), upd_ne (fun z => by rw [z, hd1] at hb; cases hb)]
      exact hb
    have oldn : ∀ {b : Addr}, H1 b ≠ none → (upd (upd H1 dx (.own x)) x (.ins Ca dx [])) b ≠ none := fun {b} hb => by
      cases e : H1 b with
      | none => exact absurd e hb
      | some o =>
        rw [old e]
        exact fun z => nomatch z
    refine ⟨x, dx, vs, G, ds, _, _, rfl, upd_same, gx, fun b o e => old (a1.gh b o e), rpl_of (a1.args l), hw, fun fd fs G2 H2 f g1 g2 g3 g4 g5 g6 => ⟨rfl, ?_⟩, fun er he Ce de fs G2 H2 hc g1 g2 g3 g4 g5 g6 g7 => ?_⟩
    · have g2x : G2 x = none := g4 x (by rw [upd_same]; exact fun z => nomatch z) gx
      have eg : Ex G2 (upd G2 x (.ins Ca dx fs)) := Ex.new g2x
      have n : Nw G H1 (upd G2 x (.ins Ca dx fs)) H2 := ⟨fun b o e => g3 b o (fun z => by rw [z, hx1] at e; cases e) (old e), g1.trans eg, fun b o e => by
        by_cases hb : b = x
        · rw [hb, upd_same] at e
          rw [hb, g5]
          exact e
        · rw [upd_ne hb] at e
          exact g2 b o e, fun b hb hg => by
        rw [upd_ne (fun z => hb (by rw [z]; exact hx1))]
        exact g4 b (oldn hb) hg⟩
      refine q _ _ _ s1 (f ⟨fd, rfl⟩) ⟨_, ps, (a1.rest.step n).push (w := .d (inst cn fd)) ?_⟩
      exact .ins O upd_same (RpF.mono eg g6)
    · refine hE F G ps H1 σ s1 _ _ hx a1.rest er he Ce de fs G2 H2 hc ⟨fun b o e => g3 b o (fun z => by rw [z, hx1] at e; cases e) (old e), g1, g2, fun b hb hg => g4 b (oldn hb) hg⟩ g5 ?_ g7
      cases e : H1 de with
      | none => rfl
      | some o =>
        rw [old e] at g6
        cases g6
theorem wpe_mk {Wd : Wf} {ta : TA} (O : C.cl cn = some Ca) (h : wpa C ta s fun ws s1 => ∃ ds : List PyData, ws = ds.map W.d ∧ Wd ds (fun d => (∃ fd, d = inst cn fd) → Φ (.d d) s1) C.Psi) : wpe C (tMake Ca (spI C.K C.cl cn Ca Wd) [] C.EX ta) s Φ :=
  wpe_mkE (Ps := C.Psi) O (fun F G ps H σ s1 pd wk hx a1 er he Ce de fs G2 H2 hc n g5 g6 g7 => exok_call hx a1 er he Ce de fs G2 H2 hc n g5 g6 g7) h
theorem wpe_mk0 {Wd : Wf} {EX : XK} {ta : TA} (O : C.cl cn = some Ca) (h : wpa C ta s fun ws s1 => ∃ ds : List PyData, ws = ds.map W.d ∧ Wd ds (fun d => (∃ fd, d = inst cn fd) → Φ (.d d) s1) fun _ => False) : wpe C (tMake Ca (spI C.K C.cl cn Ca Wd) [] EX ta) s Φ :=
  wpe_mkE (Ps := fun _ => False) O (fun F G ps H σ s1 pd wk hx a1 er he => he.elim) h
/-- in an __init__ -/
def pkI (K : PySem.W.Frag) (cl : Str → Option Addr) (Ca : Addr) (st : Nat → List (Str × PyData)) : Pn → Prop := fun n => ∃ a dx, n = objPn K cl a Ca dx st
theorem wps_fld {fns : List Str} {D : DE} {f : Str} {i : Nat} {te : TE} {st : Nat → List (Str × PyData)} (O : OwnC C.K C.cl cn Ca fns) (hf : f ∈ fns) (hpk : C.pk = pkI C.K C.cl Ca st)
    (h : wpe C te s fun w s1 => s1.sl[i]? = some .pen ∧ ∃ d c', w = .d d ∧ (st s1.c).length < 1000 ∧ st c' = putD f d (st s1.c) ∧ D.nx { s1 with c := c' }) : wps C (sFld C.K (tVar i) te f) s D := fun F H σ wk hx a E o =>
  h F H σ [] wk hx a _ fun y H1 w s1 ⟨hi, d, c', ew, hl, hc, k⟩ ⟨G, ps, a1⟩ => by
    subst ew
    obtain ⟨v, hv, rv⟩ := a1.env i .pen hi (fun z => nomatch z)
    have rv : v = .ref F.pn.P := rv
    subst rv
    have pk := a1.pk
    rw [hpk] at pk
    obtain ⟨ob, dx, hn⟩ := pk
    have pn := a1.pn
    have hP : F.pn.P = ob := by rw [hn]; rfl
    have hX : ∀ b, F.pn.X b ↔ b = ob := fun b => by rw [hn]; exact Iff.rfl
    have pn2 : ∃ fs, H1 ob = some (.ins Ca dx fs) ∧ RpF C.K C.cl G fs (fD (st s1.c)) := by
      rw [hn] at pn
      exact pn
    obtain ⟨fs, h1, h2⟩ := pn2
    have ty : Rp C.K C.cl G y d := a1.top
    refine ⟨_, hv, ob, Ca, dx, fs, by rw [hP], h1, O.hd, O.na f hf, by rw [rpf_len h2]; simpa [fD] using hl, o.nx _ _ { s1 with c := c' } k ⟨G, ps, ?_⟩⟩
    have x0 : G ob = none := a1.x0 ((hX ob).mpr rfl) (F.xh _ ((hX ob).mpr rfl))
    have eh : ∀ b o, b ≠ ob → H1 b = some o → (upd H1 ob (.ins Ca dx (putF f y fs))) b = some o := fun b o hb e => by rw [upd_ne hb]; exact e
    refine a1.pop.stepN (G2 := G) (Ex.refl G) (fun b o e => eh b o (fun z => by rw [z, x0] at e; cases e) (a1.gh b o e)) (fun b o hb e => eh b o (fun z => hb ((hX b).mpr z)) e) (fun b _ g => g) ?_
    rw [hn]
    exact ⟨_, upd_same, by rw [hc]; exact rpf_put ty h2⟩
theorem wpe_fldS {fns : List Str} {f : Str} {i : Nat} {st : Nat → List (Str × PyData)} (O : OwnC C.K C.cl cn Ca fns) (hf : f ∈ fns) (hpk : C.pk = pkI C.K C.cl Ca st) (hi : s.sl[i]? = some .pen) {d : PyData} (hd : (st s.c).lookup f = some d) (k : Φ (.d d) s) : wpe C (tFld C.K (tVar i) f) s Φ := fun F H σ pd wk hx ⟨G, ps, a1⟩ Q q => by
    obtain ⟨v, hv, rv⟩ := a1.env i .pen hi (fun z => nomatch z)
    have rv : v = .ref F.pn.P := rv
    subst rv
    have pk := a1.pk
    rw [hpk] at pk
    obtain ⟨ob, dx, hn⟩ := pk
    have pn := a1.pn
    have hP : F.pn.P = ob := by rw [hn]; rfl
    have pn2 : ∃ fs, H ob = some (.ins Ca dx fs) ∧ RpF C.K C.cl G fs (fD (st s.c)) := by
      rw [hn] at pn
      exact pn
    obtain ⟨fs, h1, h2⟩ := pn2
    obtain ⟨u, hu, ru⟩ := rpf_lookup h2 hd
    exact ⟨_, hv, ob, Ca, dx, fs, u, by rw [hP], h1, O.hd, O.na f hf, hu, q _ _ _ s k ⟨G, ps, a1.push (w := .d d) ru⟩⟩
end
theorem spI_ok {K : PySem.W.Frag} {cl : Str → Option Addr} {cn : Str} {Ca : Addr} {Wd : Wf} {t : TS} {N : List Str} {vs : List V} {H : Hp} {Q : VK} {E : XK} (hsp : spI K cl cn Ca Wd vs H Q E) (hn : vs.length ≤ N.length)
    (h : ∀ ds Φ Ψ, Wd ds Φ Ψ → ∃ st : Nat → List (Str × PyData), st 0 = [] ∧ wps { K := K, cl := cl, EX := E, Psi := Ψ, pk := pkI K cl Ca st } t (start0 (.pen :: ds.map .d) N.length 0) { nx := fun s => Φ (inst cn (st s.c)), rt := fun w s => w = .d .none ∧ Φ (inst cn (st s.c)) }) :
    t { nx := fun _ H' => Q .non H', rt := Q } (L2.start N vs) H := by
  obtain ⟨a, dx, us, G, ds, Φ, Ψ, ev, ha, ga, eg, r, hw, k1, k2⟩ := hsp
  subst ev
  obtain ⟨st, h0, h⟩ := h ds Φ Ψ hw
  have rw_ : ∀ {ps : List Addr}, Paired (RpW { K := K, cl := cl, EX := E, Psi := Ψ, pk := pkI K cl Ca st } a G ps) (.ref a :: us) (W.pen :: ds.map W.d) := .cons rfl (rpw_of r)
  refine h ⟨G, H, objPn K cl a Ca dx st, fun b hb => by rw [show b = a from hb]; exact ga, fun b hb => by rw [show b = a from hb, ha]; exact fun z => nomatch z⟩ H _ []
    (fun er he Ce de fs G2 H2 hc g1 g2 g3 g4 g5 g6 g7 => k2 er he Ce de fs G2 H2 hc g1 g2 (fun b o hb e => g3 b o hb e) g4 g5 g6 g7)
    ⟨G, [], eg, Ex.refl G, fun _ _ _ e => e, fun _ _ g => g, ?_, start_env rw_, List.nodup_nil, rfl, fun k p ws h1 _ => by simp at h1, fun q hq => by simp at hq, fun q hq => by simp at hq, ⟨[], ha, by rw [show (start0 (.pen :: ds.map .d) N.length 0).c = 0 from rfl, h0]; exact .nil⟩, fun p hp => by simp at hp, ⟨a, dx, rfl⟩⟩ _
    ⟨fun σ2 H2 s2 f ⟨G2, ps2, a2⟩ => ?_, fun v H2 σ2 w s2 ⟨ew, f⟩ ⟨G2, ps2, a2⟩ => ?_, fun _ _ _ z => z.elim, fun _ _ _ z => z.elim⟩
  · have hl := r.length
    show ((V.ref a :: us).map some ++ List.replicate (N.length - (V.ref a :: us).length) none).length = ((W.pen :: ds.map W.d) ++ List.replicate (N.length - (W.pen :: ds.map W.d).length) W.no).length
    simp only [List.length_append, List.length_map, List.length_replicate, List.length_cons]
    omega
  · obtain ⟨fs, h1, h2⟩ := a2.pn
    exact k1 _ fs G2 H2 f a2.g0 a2.gh (fun b o hb e => a2.h0 b o hb e) a2.fr h1 h2
  · subst ew
    have ev : v = .non := by
      have rr : Rp K cl G2 v .none := a2.top
      cases rr
      rfl
    subst ev
    obtain ⟨fs, h1, h2⟩ := a2.pn
    exact k1 _ fs G2 H2 f a2.g0 a2.gh (fun b o hb e => a2.h0 b o hb e) a2.fr h1 h2
end DL
set_option Elab.async false
set_option linter.all false
set_option maxRecDepth 100000
set_option maxHeartbeats 2000000
namespace DL
open PySem L2 Evl RZ
/-! ### 20. zip of two tuples -/
section
variable {K : PySem.W.Frag} {cl : Str → Option Addr}
theorem walk_zipT {a b : Addr} {xs ys : List PyData} {G : Hp} (r : Rp K cl G (.ref a) (.tuple xs)) (r' : Rp K cl G (.ref b) (.tuple ys)) : WalkD K cl (ItzT K a b) (zipD xs ys) G := by
  cases r with
  | @tup _ vs _ ha rl =>
    cases r' with
    | @tup _ us _ hb rl' =>
      intro i G3 H e1 e2
      have hq : SqT K H a vs := ex_t e2 (ex_t e1 ha)
      have hq' : SqT K H b us := ex_t e2 (ex_t e1 hb)
      refine ⟨fun d hd => ?_, fun hl => ⟨vs, us, hq, hq', by
        rw [rl.length, rl'.length]
        have hl : ((xs.zip ys).map fun p => PyData.tuple [p.1, p.2]).length ≤ i := hl
        rw [List.length_map, List.length_zip] at hl
        omega⟩⟩
      obtain ⟨x, y, hx, hy, rfl⟩ := zipD_get hd
      obtain ⟨v, hv, rv⟩ := rl.get hx
      obtain ⟨u, hu, ru⟩ := rl'.get hy
      refine ⟨⟨vs, us, v, u, hq, hq', hv, hu⟩, fun z H' ⟨T, y1, y2, ex, hT, eH, h1, h2⟩ => ?_⟩
      subst eH ex
      have e3 := h1 vs hq
      have e4 := h2 us hq'
      rw [hv] at e3
      rw [hu] at e4
      cases e3
      cases e4
      have n := nw_new (o := .tup [v, u]) e2 hT
      exact ⟨_, n, .tup (st_of upd_same) (.cons ((rv.mono e1).mono n.gg) (.cons ((ru.mono e1).mono n.gg) .nil))⟩
theorem wpi_zipT {C : Cn} {s : S} {ta : TA} {Φ : List PyData → S → Prop} (h : wpa C ta s fun ws s1 => ∃ xs ys, ws = [.d (.tuple xs), .d (.tuple ys)] ∧ Φ (zipD xs ys) s1) : wpi C (iZipA C.K ta) s Φ := fun F H σ pd wk hx a R q =>
  h F H σ pd wk hx a _ fun vs H1 ws s1 ⟨xs, ys, e, k⟩ l ⟨G, ps, a1⟩ => by
    subst e
    obtain ⟨v, u, rfl⟩ := two_args l
    have r1 : Rp C.K C.cl G v (.tuple xs) := a1.top
    have r2 : Rp C.K C.cl G u (.tuple ys) := a1.pop.top
    obtain ⟨p, vs, rfl, hv⟩ := rp_tupref r1
    obtain ⟨p2, us, rfl, hu⟩ := rp_tupref r2
    exact ⟨p, p2, vs, us, rfl, .inr ⟨ex_t a1.gh hv, ex_t a1.gh hu, q _ _ _ s1 k ⟨G, ps, a1.pop.pop.walk WalkD.mono (walk_zipT r1 r2)⟩⟩⟩
end
/-! ### 21. dicts as data -/
def kd (p : L2.Key × PyData) : PyData × PyData := (keyD p.1, p.2)
def dct (es : List (L2.Key × PyData)) : PyData := .dict ((.none, .none) :: es.map kd)
def putG {β : Type} (es : List (L2.Key × β)) (k : L2.Key) (v : β) : List (L2.Key × β) :=
  if (es.any fun p => decide (p.1 = k)) = true then es.map (fun p => if p.1 = k then (p.1, v) else p) else es ++ [(k, v)]
theorem keyD_inj {a b : L2.Key} (h : keyD a = keyD b) : a = b := by
  cases a <;> cases b <;> simp [keyD] at h <;> rw [h]
theorem rpk_inv {K : PySem.W.Frag} {cl : Str → Option Addr} {G : Hp} : ∀ {es : List (L2.Key × PyData)} {kvs : List (L2.Key × V)}, RpK K cl G kvs (es.map kd) → Paired (fun p q => p.1 = q.1 ∧ Rp K cl G p.2 q.2) kvs es
  | [], _, r => by
    cases r
    exact .nil
  | (k, d) :: es, kvs, r => by
    rw [List.map_cons] at r
    generalize hL : es.map kd = L at r
    have hk : kd (k, d) = (keyD k, d) := rfl
    rw [hk] at r
    generalize hq : keyD k = q at r
    cases r with
    | @cons k2 v _ ks _ h r2 =>
      subst hL
      have := keyD_inj hq
      subst this
      exact .cons ⟨rfl, h⟩ (rpk_inv r2)
theorem rpk_of {K : PySem.W.Frag} {cl : Str → Option Addr} {G : Hp} : ∀ {es : List (L2.Key × PyData)} {kvs : List (L2.Key × V)}, Paired (fun p q => p.1 = q.1 ∧ Rp K cl G p.2 q.2) kvs es → RpK K cl G kvs (es.map kd)
  | _, _, .nil => .nil
  | _, _, .cons (a := (k, v)) (b := (k2, d)) ⟨e, h⟩ r => by
    have e : k = k2 := e
    subst e
    exact .cons h (rpk_of r)
theorem rpk_any {K : PySem.W.Frag} {cl : Str → Option Addr} {G : Hp} {k : L2.Key} : ∀ {es : List (L2.Key × PyData)} {kvs : List (L2.Key × V)}, Paired (fun p q => p.1 = q.1 ∧ Rp K cl G p.2 q.2) kvs es → (kvs.any fun p => decide (p.1 = k)) = es.any fun p => decide (p.1 = k)
  | _, _, .nil => rfl
  | _, _, .cons ⟨e, h⟩ r => by
    rw [List.any_cons, List.any_cons, rpk_any r, e]
theorem rpk_put {K : PySem.W.Frag} {cl : Str → Option Addr} {G : Hp} {k : L2.Key} {v : V} {d : PyData} {es : List (L2.Key × PyData)} {kvs : List (L2.Key × V)} (r : Paired (fun p q => p.1 = q.1 ∧ Rp K cl G p.2 q.2) kvs es) (h : Rp K cl G v d) :
    Paired (fun p q => p.1 = q.1 ∧ Rp K cl G p.2 q.2) (L2.putK kvs k v) (putG es k d) := by
  unfold L2.putK putG
  rw [rpk_any r]
  split
  · have key : ∀ {l : List (L2.Key × V)} {m : List (L2.Key × PyData)}, Paired (fun p q => p.1 = q.1 ∧ Rp K cl G p.2 q.2) l m → Paired (fun p q => p.1 = q.1 ∧ Rp K cl G p.2 q.2) (l.map fun p => if p.1 = k then (p.1, v) else p) (m.map fun p => if p.1 = k then (p.1, d) else p) := by
      intro l m r
      induction r with
      | nil => exact .nil
      | cons hp hr ih =>
        rename_i p q l m
        rw [List.map_cons, List.map_cons]
        refine .cons ?_ ih
        by_cases e : p.1 = k
        · rw [if_pos e, if_pos (hp.1 ▸ e)]
          exact ⟨hp.1, h⟩
        · rw [if_neg e, if_neg (hp.1 ▸ e)]
          exact hp
    exact key r
  · have snoc : ∀ {l : List (L2.Key × V)} {m : List (L2.Key × PyData)}, Paired (fun p q => p.1 = q.1 ∧ Rp K cl G p.2 q.2) l m → Paired (fun p q => p.1 = q.1 ∧ Rp K cl G p.2 q.2) (l ++ [(k, v)]) (m ++ [(k, d)]) := fun r => PySem.Paired.snoc r ⟨rfl, h⟩
    exact snoc r
section
variable {C : Cn} {F : Fr} {G : Hp} {ps : List Addr} {H : Hp} {σ : L2.St} {s : S} {pd : List (V × W)} {wk : List (Hp → Prop)}
/-- the frame, with one thing more that must stay -/
theorem plus_xh {F : Fr} {D : Addr} {o : HO} (a : Addr) (ha : F.pn.X a) : upd F.H0 D o a ≠ none := by
  by_cases e : a = D
  · rw [e, upd_same]
    exact fun z => nomatch z
  · rw [upd_ne e]
    exact F.xh a ha
def Fr.plus (F : Fr) (D : Addr) (o : HO) : Fr := ⟨F.G0, upd F.H0 D o, F.pn, F.xg, plus_xh⟩
theorem EXok.plus {D : Addr} {o : HO} (hx : EXok C F) (f0 : F.H0 D = none) : EXok C (F.plus D o) := fun er he Ca dx fs G2 H2 hc g1 g2 g3 g4 g5 g6 g7 =>
  hx er he Ca dx fs G2 H2 hc g1 g2 (fun b u hb e => g3 b u hb (by
    show upd F.H0 D o b = some u
    rw [upd_ne (fun z => by rw [z, f0] at e; cases e)]
    exact e)) (fun b hb hg => g4 b (by
    show upd F.H0 D o b ≠ none
    by_cases e : b = D
    · rw [e, upd_same]
      exact fun z => nomatch z
    · rw [upd_ne e]
      exact hb) hg) g5 (by
    have g6 : upd F.H0 D o dx = none := g6
    by_cases e : dx = D
    · rw [e, upd_same] at g6
      cases g6
    · rw [upd_ne e] at g6
      exact g6) g7
/-- a new thing that is hidden -/
theorem AtG.hide {D : Addr} {o : HO} (a : AtG C F G ps H σ s pd wk) (hD : H D = none) : F.H0 D = none ∧ AtG C (F.plus D o) G ps (upd H D o) σ s pd wk := by
  have n := nw_raw (o := o) a.gh hD
  have b := a.step n
  have npx : ¬ F.pn.X D := fun hx => F.pn.pe _ _ _ D a.pn hx hD
  have n0 : F.H0 D = none := by
    cases e : F.H0 D with
    | none => rfl
    | some o =>
      have := a.h0 D o npx e
      rw [hD] at this
      cases this
  have pn : D ∉ ps := fun hm => (a.psh D hm).1 hD
  have gD : G D = none := by
    cases e : G D with
    | none => rfl
    | some o =>
      have := a.gh D o e
      rw [hD] at this
      cases this
  refine ⟨n0, b.gh, b.g0, fun x u hx e => ?_, fun x h g => ?_, b.len, b.env, b.psn, b.psl, fun k p ws h1 h2 => ?_, b.pend, b.wkm, b.pn, fun p hp => ⟨(b.psh p hp).1, ?_⟩, b.pk⟩
  · have e : upd F.H0 D o x = some u := e
    by_cases hb : x = D
    · rw [hb, upd_same] at e
      rw [hb, upd_same]
      exact e
    · rw [upd_ne hb] at e
      exact b.h0 x u hx e
  · by_cases hb : x = D
    · rw [hb]
      exact gD
    · have h : upd F.H0 D o x ≠ none := h
      rw [upd_ne hb] at h
      exact b.fr x h g
  · obtain ⟨e1, e2⟩ := b.ms k p ws h1 h2
    refine ⟨?_, e2⟩
    show upd F.H0 D o p = none
    rw [upd_ne (fun z => pn (by rw [← z]; exact List.mem_of_getElem? h1))]
    exact e1
  · show upd F.H0 D o p = none
    rw [upd_ne (fun z => pn (by rw [← z]; exact hp))]
    exact (b.psh p hp).2
theorem AtG.hid {D : Addr} {o : HO} (a : AtG C (F.plus D o) G ps H σ s pd wk) (nx : ¬ F.pn.X D) (f0 : F.H0 D = none) (g0 : F.G0 D = none) : H D = some o ∧ G D = none ∧ D ∉ ps :=
  ⟨a.h0 D o nx upd_same, a.fr D (by show upd F.H0 D o D ≠ none; rw [upd_same]; exact fun z => nomatch z) g0, fun hm => by
    have := (a.psh D hm).2
    have e : upd F.H0 D o D = none := this
    rw [upd_same] at e
    cases e⟩
/-- the hidden thing changes -/
theorem AtG.rehide {D : Addr} {o o' : HO} (no : ∀ f, o ≠ HO.ext f) (a : AtG C (F.plus D o) G ps H σ s pd wk) (nx : ¬ F.pn.X D) (f0 : F.H0 D = none) (g0 : F.G0 D = none) : AtG C (F.plus D o') G ps (upd H D o') σ s pd wk := by
  obtain ⟨hD, gD, pD⟩ := a.hid nx f0 g0
  have oh : ∀ {b : Addr}, b ≠ D → (upd F.H0 D o') b = (upd F.H0 D o) b := fun hb => by rw [upd_ne hb, upd_ne hb]
  refine ⟨fun b u e => ?_, a.g0, fun b u hb e => ?_, fun b h g => ?_, a.len, a.env, a.psn, a.psl, fun k p ws h1 h2 => ?_, a.pend, a.wkm, ?_, fun p hp => ?_, a.pk⟩
  · rw [upd_ne (fun z => by rw [z, gD] at e; cases e)]
    exact a.gh b u e
  · have e : upd F.H0 D o' b = some u := e
    by_cases hb2 : b = D
    · rw [hb2, upd_same] at e ⊢
      exact e
    · rw [upd_ne hb2]
      rw [oh hb2] at e
      exact a.h0 b u hb e
  · have h : upd F.H0 D o' b ≠ none := h
    by_cases hb2 : b = D
    · rw [hb2]
      exact gD
    · rw [oh hb2] at h
      exact a.fr b h g
  · have hpD : p ≠ D := fun z => pD (by rw [← z]; exact List.mem_of_getElem? h1)
    obtain ⟨e1, e2, vs, e3, r⟩ := a.ms k p ws h1 h2
    refine ⟨?_, e2, vs, by rw [upd_ne hpD]; exact e3, r⟩
    show upd F.H0 D o' p = none
    rw [oh hpD]
    exact e1
  · exact F.pn.px _ _ _ _ _ (Ex.refl G) (fun b u e hb => by
      rw [upd_ne (fun z => by
        rcases hb with hb | ⟨f, hb⟩
        · exact nx (by rw [← z]; exact hb)
        · rw [z, hD, hb] at e
          exact no f (Option.some.inj e))]
      exact e) a.pn
  · have hpD : p ≠ D := fun z => pD (by rw [← z]; exact hp)
    refine ⟨by rw [upd_ne hpD]; exact (a.psh p hp).1, ?_⟩
    show upd F.H0 D o' p = none
    rw [oh hpD]
    exact (a.psh p hp).2
/-- the hidden thing is of the data from now on -/
theorem AtG.show {D : Addr} {o : HO} (a : AtG C (F.plus D o) G ps H σ s pd wk) (nx : ¬ F.pn.X D) (f0 : F.H0 D = none) (g0 : F.G0 D = none) : G D = none ∧ AtG C F (upd G D o) ps H σ s pd wk := by
  obtain ⟨hD, gD, pD⟩ := a.hid nx f0 g0
  have eg : Ex G (upd G D o) := Ex.new gD
  refine ⟨gD, fun b u e => ?_, a.g0.trans eg, fun b u hb e => a.h0 b u hb ?_, fun b h g => ?_, a.len, fun i w h1 h2 => ?_, a.psn, a.psl, fun k p ws h1 h2 => ?_, fun q hq => (a.pend q hq).mono eg fun _ _ h => h, fun q hq => ⟨(a.wkm q hq).1, (a.wkm q hq).1 _ _ eg (a.wkm q hq).2⟩, F.pn.px _ _ _ _ _ eg (fun _ _ h _ => h) a.pn, fun p hp => ?_, a.pk⟩
  · by_cases hb : b = D
    · rw [hb, upd_same] at e
      rw [hb, hD]
      exact e
    · rw [upd_ne hb] at e
      exact a.gh b u e
  · show upd F.H0 D o b = some u
    rw [upd_ne (fun z => by rw [z, f0] at e; cases e)]
    exact e
  · have hb : b ≠ D := fun z => h (by rw [z]; exact f0)
    rw [upd_ne hb]
    exact a.fr b (by show upd F.H0 D o b ≠ none; rw [upd_ne hb]; exact h) g
  · obtain ⟨v, e, r⟩ := a.env i w h1 h2
    exact ⟨v, e, r.mono eg fun _ _ h => h⟩
  · have hpD : p ≠ D := fun z => pD (by rw [← z]; exact List.mem_of_getElem? h1)
    obtain ⟨e1, e2, vs, e3, r⟩ := a.ms k p ws h1 h2
    refine ⟨?_, by rw [upd_ne hpD]; exact e2, vs, e3, L2.Paired.mapP r fun _ _ h => RpW.mono eg (fun _ _ h => h) h⟩
    have e1 : upd F.H0 D o p = none := e1
    rw [upd_ne hpD] at e1
    exact e1
  · have hpD : p ≠ D := fun z => pD (by rw [← z]; exact hp)
    obtain ⟨e1, e2⟩ := a.psh p hp
    have e2 : upd F.H0 D o p = none := e2
    rw [upd_ne hpD] at e2
    exact ⟨e1, e2⟩
end
end DL
set_option Elab.async false
set_option linter.all false
set_option maxRecDepth 100000
set_option maxHeartbeats 2000000
namespace DL
open PySem L2 Evl RZ
/-! ### 22. {k: v for ..} -/
def dcF {α : Type} (b : α → Bool) (kf : α → L2.Key) (vf : α → PyData) (es : List (L2.Key × PyData)) (x : α) : List (L2.Key × PyData) := if b x then putG es (kf x) (vf x) else es
theorem putG_len {β : Type} {es : List (L2.Key × β)} {k : L2.Key} {v : β} : (putG es k v).length ≤ es.length + 1 := by
  unfold putG
  split
  · rw [List.length_map]
    omega
  · simp
section
variable {C : Cn} {s : S} {tt : TT} {te tk tv : TE} {wi : TI} {g : TG} {vs : List Nat} {Φ : W → S → Prop}
theorem wpe_dcP {α : Type} (xs : List α) (inj : α → PyData) (b : α → Bool) (kf : α → L2.Key) (vf : α → PyData) (hg : TgW g vs) (h : wpi C wi s fun items s1 => items = xs.map inj ∧ xs.length ≤ 99999 ∧
    (∀ x ∈ xs, ∀ s2 : S, s2.sl = wipeW s1.sl vs → s2.c = s1.c → s2.ms = s1.ms → wpg C g (.d (inj x)) s2 fun s3 => wpt C tt s3 fun bb s4 => bb = b x ∧ s4.c = s1.c ∧ s4.ms = s1.ms ∧
      (b x = true → wpe C tk s4 fun w s5 => w = .d (keyD (kf x)) ∧ wpe C tv s5 fun w2 s6 => w2 = .d (vf x) ∧ s6.c = s1.c ∧ s6.ms = s1.ms)) ∧
    Φ (.d (dct (xs.foldl (dcF b kf vf) []))) s1) : wpe C (tDc wi g tt tk tv vs) s Φ := fun F H σ pd wk hx a Q q =>
  h F H σ pd wk hx a _ fun J H1 items s1 ⟨ei, hl, turn, fin⟩ ⟨G1, ps1, a1⟩ D hD => by
    subst ei
    obtain ⟨f0, a0⟩ := a1.hide (o := .dK []) hD
    have nx : ¬ F.pn.X D := fun hx => F.pn.pe _ _ _ D a1.pn hx hD
    have g00 : F.G0 D = none := by
      cases e : F.G0 D with
      | none => rfl
      | some o =>
        have := a1.gh D o (a1.g0 D o e)
        rw [hD] at this
        cases this
    -- between the turns
    refine ⟨fun i m H => m = xs.length - i ∧ i ≤ xs.length ∧ ∃ kvs G ps, kvs.length ≤ i ∧ Paired (fun p q => p.1 = q.1 ∧ Rp C.K C.cl G p.2 q.2) kvs ((xs.take i).foldl (dcF b kf vf) []) ∧
      AtG C (F.plus D (.dK kvs)) G ps H (L2.wipe σ vs) (s1.wipe vs) (slotsOf σ s1.sl ++ pd) (WalkD C.K C.cl J (xs.map inj) :: wk), ⟨_, rfl, Nat.zero_le _, [], G1, ps1, Nat.zero_le _, .nil, a0.slots.wipe vs⟩, ?_⟩
    rintro i m H ⟨rfl, hi, kvs, G, ps, hk, rk, a⟩
    have wd := (a.wkm _ List.mem_cons_self).2 i G H (Ex.refl G) a.gh
    by_cases hlt : i < xs.length
    · have hxi : xs[i]? = some xs[i] := List.getElem?_eq_getElem hlt
      have hd : (xs.map inj)[i]? = some (inj xs[i]) := by rw [List.getElem?_map, hxi]; rfl
      obtain ⟨go, yl⟩ := wd.1 _ hd
      refine .inr ⟨go, fun H' => ∃ kvs G ps, kvs.length ≤ i + 1 ∧ Paired (fun p q => p.1 = q.1 ∧ Rp C.K C.cl G p.2 q.2) kvs ((xs.take (i + 1)).foldl (dcF b kf vf) []) ∧
        AtG C (F.plus D (.dK kvs)) G ps H' (L2.wipe σ vs) (s1.wipe vs) (slotsOf σ s1.sl ++ pd) (WalkD C.K C.cl J (xs.map inj) :: wk), fun H' ⟨kvs, G, ps, h1, h2, h3⟩ => ⟨xs.length - (i + 1), by omega, rfl, hlt, kvs, G, ps, h1, h2, h3⟩, fun x H' y => ?_⟩
      obtain ⟨G2, n, rx⟩ := yl x H' y
      have ww : L2.wipe (L2.wipe σ vs) vs = L2.wipe σ vs := wipe_wipe fun _ h => h
      have et : (xs.take (i + 1)).foldl (dcF b kf vf) [] = dcF b kf vf ((xs.take i).foldl (dcF b kf vf) []) xs[i] := by
        rw [List.take_succ, hxi, List.foldl_append]
        rfl
      -- the keys so far are of the data as it grows
      have back : ∀ {σ3 : L2.St} {H3 : Hp} {s3 : S} {kvs' : List (L2.Key × V)} {G3 : Hp} {ps3 : List Addr}, s3.ms = s1.ms → s3.c = s1.c → AtG C (F.plus D (.dK kvs')) G3 ps3 H3 σ3 s3 (slotsOf σ s1.sl ++ pd) (WalkD C.K C.cl J (xs.map inj) :: wk) →
          AtG C (F.plus D (.dK kvs')) G3 ps3 H3 (L2.wipe σ vs) (s1.wipe vs) (slotsOf σ s1.sl ++ pd) (WalkD C.K C.cl J (xs.map inj) :: wk) := by
        rintro σ3 H3 s3 kvs' G3 ps3 em ec a3
        have r := a3.reslot (σ' := L2.wipe σ vs) (sl := wipeW s1.sl vs) (by rw [wipe_length, wipeW_len]; exact a1.len) fun j w h1 h2 => by
          obtain ⟨h3, h4⟩ := wipeW_some h1 h2
          obtain ⟨v, e, _⟩ := a1.env j w h3 h2
          exact ⟨v, by rw [wipe_keep h4]; exact e, List.mem_append_left _ (slots_mem e h3 (W.is_ne h2))⟩
        have es : ({ s3 with sl := wipeW s1.sl vs } : S) = s1.wipe vs := by
          unfold S.wipe
          rw [← em, ← ec]
        rw [es] at r
        exact r
      have hx2 : EXok C (F.plus D (.dK kvs)) := hx.plus f0
      let q1 : Hp → Prop := fun G => Paired (fun p q => p.1 = q.1 ∧ Rp C.K C.cl G p.2 q.2) kvs ((xs.take i).foldl (dcF b kf vf) [])
      have mq : Mono q1 := fun G G' e h => L2.Paired.mapP h fun _ _ h => ⟨h.1, h.2.mono e⟩
      have ax := ((a.step n).push (w := .d (inj xs[i])) rx)
      have aw := ax.walk mq (L2.Paired.mapP rk fun _ _ h => ⟨h.1, h.2.mono n.gg⟩)
      have hb : g x (L2.wipe σ vs) H' fun σ2 H2 => tt σ2 H2 fun bb H3 => if bb = true then tk σ2 H3 fun y H4 => tv σ2 H4 fun z H5 => ∃ kvs k, y = kV k ∧ H5 D = some (.dK kvs) ∧ kvs.length < sizeLine ∧
          (∃ kvs' G ps, kvs'.length ≤ i + 1 ∧ Paired (fun p q => p.1 = q.1 ∧ Rp C.K C.cl G p.2 q.2) kvs' ((xs.take (i + 1)).foldl (dcF b kf vf) []) ∧
            AtG C (F.plus D (.dK kvs')) G ps (upd H5 D (.dK (L2.putK kvs k z))) (L2.wipe σ vs) (s1.wipe vs) (slotsOf σ s1.sl ++ pd) (WalkD C.K C.cl J (xs.map inj) :: wk))
          else ∃ kvs' G ps, kvs'.length ≤ i + 1 ∧ Paired (fun p q => p.1 = q.1 ∧ Rp C.K C.cl G p.2 q.2) kvs' ((xs.take (i + 1)).foldl (dcF b kf vf) []) ∧
            AtG C (F.plus D (.dK kvs')) G ps H3 (L2.wipe σ vs) (s1.wipe vs) (slotsOf σ s1.sl ++ pd) (WalkD C.K C.cl J (xs.map inj) :: wk) := by
        refine turn xs[i] (List.getElem_mem hlt) (s1.wipe vs) rfl rfl rfl (F.plus D (.dK kvs)) H' (L2.wipe σ vs) x _ (q1 :: WalkD C.K C.cl J (xs.map inj) :: wk) hx2 ⟨G2, ps, aw⟩ _ fun σ2 H2 s2 f2 a2 => ?_
        refine f2 _ H2 σ2 _ _ hx2 a2 _ fun bb H3 s3 ⟨eb, ec3, em3, k1⟩ a3 => ?_
        cases bb with
        | true =>
          show tk σ2 H3 _
          refine k1 eb.symm _ H3 σ2 _ _ hx2 a3 _ fun y H4 w s4 ⟨ew, k2⟩ a4 => ?_
          subst ew
          refine k2 _ H4 σ2 _ _ hx2 a4 _ fun z H5 w2 s5 ⟨ew2, ec5, em5⟩ ⟨G5, ps5, a5⟩ => ?_
          subst ew2
          have rz : Rp C.K C.cl G5 z (vf xs[i]) := a5.top
          have ry : Rp C.K C.cl G5 y (keyD (kf xs[i])) := a5.pop.top
          have ey : y = kV (kf xs[i]) := by
            cases hk2 : kf xs[i] with
            | inl j =>
              rw [hk2] at ry
              exact rp_int ry
            | inr j =>
              rw [hk2] at ry
              exact rp_str ry
          have a6 := a5.pop.pop
          have rk5 : Paired (fun p q => p.1 = q.1 ∧ Rp C.K C.cl G5 p.2 q.2) kvs ((xs.take i).foldl (dcF b kf vf) []) := (a6.wkm q1 List.mem_cons_self).2
          obtain ⟨hD5, gD5, pD5⟩ := a6.hid nx f0 g00
          refine ⟨kvs, _, ey, hD5, sz_lt (by omega), L2.putK kvs (kf xs[i]) z, G5, ps5, ?_, ?_, ?_⟩
          · have := length_putK kvs (kf xs[i]) z
            omega
          · rw [et, dcF, if_pos eb.symm]
            exact rpk_put rk5 rz
          · exact back em5 ec5 (a6.unwalk.rehide (fun f z => by cases z) nx f0 g00)
        | false =>
          show ∃ kvs' G ps, _
          obtain ⟨G3, ps3, a3⟩ := a3
          refine ⟨kvs, G3, ps3, by omega, ?_, back em3 ec3 a3.unwalk⟩
          rw [et, dcF, if_neg (by rw [← eb]; exact Bool.false_ne_true)]
          exact (a3.wkm q1 List.mem_cons_self).2
      have hb2 := hg x (L2.wipe σ vs) H' _ hb
      rw [ww] at hb2
      exact hb2
    · have hi' : i = xs.length := by omega
      subst hi'
      refine .inl ⟨wd.2 (by rw [List.length_map]; exact Nat.le_refl _), ?_⟩
      rw [List.take_length] at rk
      obtain ⟨gD, b1⟩ := a.show nx f0 g00
      have eg : Ex G (upd G D (.dK kvs)) := Ex.new gD
      have rd : Rp C.K C.cl (upd G D (.dK kvs)) (.ref D) (dct (xs.foldl (dcF b kf vf) [])) := .dic upd_same (rpk_of (L2.Paired.mapP rk fun _ _ h => ⟨h.1, h.2.mono eg⟩))
      have r := b1.unwalk.reslot (σ' := σ) (sl := s1.sl) a1.len fun j w h1 h2 => by
        obtain ⟨v, e, _⟩ := a1.env j w h1 h2
        exact ⟨v, e, List.mem_append_left _ (slots_mem e h1 (W.is_ne h2))⟩
      exact q _ _ _ _ fin ⟨_, ps, ((r.sub fun z hz => List.mem_append_right _ hz).push (w := .d _) rd)⟩
/-- k in d, k not in d -/
theorem dget_of {G : Hp} {p : Addr} {es : List (L2.Key × PyData)} {kvs : List (L2.Key × V)} {k : L2.Key} (e : G p = some (.dK kvs)) (r : Paired (fun p q => p.1 = q.1 ∧ Rp C.K C.cl G p.2 q.2) kvs es) : DGet G p (kV k) (valV kvs k) ∧ (valV kvs k).isSome = es.any fun p => decide (p.1 = k) :=
  ⟨DGet.k e, by rw [← valV_any, rpk_any r]⟩
theorem rp_dct {G : Hp} {v : V} {es : List (L2.Key × PyData)} (r : Rp C.K C.cl G v (dct es)) : ∃ p kvs, v = .ref p ∧ G p = some (.dK kvs) ∧ Paired (fun p q => p.1 = q.1 ∧ Rp C.K C.cl G p.2 q.2) kvs es := by
  unfold dct at r
  generalize hL : es.map kd = L at r
  cases r with
  | @dic p kvs _ h r2 =>
    subst hL
    exact ⟨p, kvs, rfl, h, rpk_inv r2⟩
theorem rp_key {G : Hp} {v : V} {k : L2.Key} (r : Rp C.K C.cl G v (keyD k)) : v = kV k := by
  cases k with
  | inl j => exact rp_int r
  | inr j => exact rp_str r
theorem wpe_dIn {ty td : TE} (h : wpe C ty s fun w1 s1 => wpe C td s1 fun w2 s2 => ∃ k es, w1 = .d (keyD k) ∧ w2 = .d (dct es) ∧ Φ (.d (.bool (es.any fun p => decide (p.1 = k)))) s2) : wpe C (tDIn ty td) s Φ := fun F H σ pd wk hx a Q q =>
  h F H σ pd wk hx a _ fun x H1 w1 s1 h a1 => h F H1 σ _ wk hx a1 _ fun y H2 w2 s2 ⟨k, es, e1, e2, f⟩ ⟨G, ps, a2⟩ => by
    subst e1 e2
    obtain ⟨p, kvs, rfl, hp, r⟩ := rp_dct a2.top
    have ex := rp_key a2.pop.top
    subst ex
    obtain ⟨d1, d2⟩ := dget_of (k := k) (a2.gh _ _ hp) (L2.Paired.mapP r fun _ _ h => ⟨h.1, h.2.mono a2.gh⟩)
    refine ⟨p, _, rfl, d1, ?_⟩
    rw [d2]
    exact q _ _ _ s2 f ⟨G, ps, a2.pop.pop.push (w := .d (.bool _)) (.bl _)⟩
theorem wpe_dNotIn {ty td : TE} (h : wpe C ty s fun w1 s1 => wpe C td s1 fun w2 s2 => ∃ k es, w1 = .d (keyD k) ∧ w2 = .d (dct es) ∧ Φ (.d (.bool (!es.any fun p => decide (p.1 = k)))) s2) : wpe C (tDNotIn ty td) s Φ := fun F H σ pd wk hx a Q q =>
  h F H σ pd wk hx a _ fun x H1 w1 s1 h a1 => h F H1 σ _ wk hx a1 _ fun y H2 w2 s2 ⟨k, es, e1, e2, f⟩ ⟨G, ps, a2⟩ => by
    subst e1 e2
    obtain ⟨p, kvs, rfl, hp, r⟩ := rp_dct a2.top
    have ex := rp_key a2.pop.top
    subst ex
    obtain ⟨d1, d2⟩ := dget_of (k := k) (a2.gh _ _ hp) (L2.Paired.mapP r fun _ _ h => ⟨h.1, h.2.mono a2.gh⟩)
    refine ⟨p, _, rfl, d1, ?_⟩
    rw [d2]
    exact q _ _ _ s2 f ⟨G, ps, a2.pop.pop.push (w := .d (.bool _)) (.bl _)⟩
end
end DL
set_option Elab.async false
set_option linter.all false
set_option maxRecDepth 100000
set_option maxHeartbeats 2000000
namespace DL
open PySem L2 Evl RZ
/-! ### 23. [e for .. in .. if .. for .. in .. if ..] -/
section
variable {C : Cn} {s : S} {tt tt1 : TT} {te : TE} {wi wi1 : TI} {g g1 : TG} {vs vs1 : List Nat} {Φ : W → S → Prop}
/-- the inner loop, the list D being that of the number k0 -/
theorem lc_inner {β : Type} (hg : TgW g1 vs1) {F : Fr} {H4 : Hp} {σ2 : L2.St} {s4 : S} {pd : List (V × W)} {wk : List (Hp → Prop)} {J1 : It} {D : Addr} {Nx : Hp → Prop} (hx : EXok C F) {G4 : Hp} {ps4 : List Addr} {ms0 : List (Option (List W))} {acc0 : List PyData}
    (ys : List β) (inj : β → PyData) (b : β → Bool) (f : β → PyData) (em : s4.ms = ms0 ++ [some (acc0.map W.d)])
    (a4 : AtG C F G4 ps4 H4 σ2 s4 ((.ref D, .m ms0.length) :: pd) (WalkD C.K C.cl J1 (ys.map inj) :: wk)) (hl : acc0.length + ys.length ≤ 99999)
    (turn : ∀ y ∈ ys, ∀ s2 : S, s2.sl = wipeW s4.sl vs1 → s2.c = s4.c → (∀ (k : Nat) o, ms0[k]? = some o → s2.ms[k]? = some o) → wpg C g1 (.d (inj y)) s2 fun s3 => wpt C tt1 s3 fun bb s5 => bb = b y ∧ s5.c = s4.c ∧ s5.ms = s2.ms ∧ (b y = true → wpe C te s5 fun w s6 => w = .d (f y) ∧ s6.c = s4.c ∧ s6.ms = s2.ms))
    (done : ∀ G ps H σ, σ.length = s4.sl.length → AtG C F G ps H σ ⟨wipeW s4.sl vs1, ms0 ++ [some ((acc0 ++ (ys.filter b).map f).map W.d)], s4.c⟩ ((.ref D, .m ms0.length) :: (slotsOf σ2 s4.sl ++ pd)) wk → Nx H) :
    ∃ W1 : Nat → Nat → Hp → Prop, (∃ m, W1 0 m H4) ∧ ∀ j k H, W1 j k H →
      (J1.stop j H ∧ Nx H) ∨ (J1.go j H ∧ ∃ Nx1 : Hp → Prop, (∀ H', Nx1 H' → ∃ k', k' < k ∧ W1 (j + 1) k' H') ∧ ∀ x H', J1.yld j H x H' → g1 x (L2.wipe σ2 vs1) H' fun σ3 H5 => L2.wipe σ3 vs1 = L2.wipe σ2 vs1 ∧ tt1 σ3 H5 fun bb H6 =>
        if bb = true then te σ3 H6 fun y H7 => ∃ acc, H7 D = some (.lst acc) ∧ acc.length < sizeLine ∧ Nx1 (upd H7 D (.lst (acc ++ [y]))) else Nx1 H6) := by
  let acc : Nat → List PyData := fun j => acc0 ++ ((ys.take j).filter b).map f
  let sj : Nat → S := fun j => ⟨wipeW s4.sl vs1, ms0 ++ [some ((acc j).map W.d)], s4.c⟩
  refine ⟨fun j k H => k = ys.length - j ∧ j ≤ ys.length ∧ ∃ G ps, AtG C F G ps H (L2.wipe σ2 vs1) (sj j) ((.ref D, .m ms0.length) :: (slotsOf σ2 s4.sl ++ pd)) (WalkD C.K C.cl J1 (ys.map inj) :: wk), ⟨_, rfl, Nat.zero_le _, G4, ps4, ?_⟩, ?_⟩
  · have b0 := (a4.slots).wipe vs1
    have es : s4.wipe vs1 = sj 0 := by
      show S.wipe s4 vs1 = ⟨_, _, _⟩
      unfold S.wipe
      rw [em]
      simp [acc]
    rw [es] at b0
    refine b0.sub fun z hz => ?_
    rcases List.mem_cons.mp hz with e | hz
    · exact List.mem_append_right _ (by rw [e]; exact List.mem_cons_self)
    · rcases List.mem_append.mp hz with hz | hz
      · exact List.mem_append_left _ hz
      · exact List.mem_append_right _ (List.mem_cons_of_mem _ hz)
  · rintro j k H ⟨rfl, hj, G, ps, a⟩
    have wd := (a.wkm _ List.mem_cons_self).2 j G H (Ex.refl G) a.gh
    by_cases hlt : j < ys.length
    · have hyj : ys[j]? = some ys[j] := List.getElem?_eq_getElem hlt
      have hd : (ys.map inj)[j]? = some (inj ys[j]) := by rw [List.getElem?_map, hyj]; rfl
      obtain ⟨go, yl⟩ := wd.1 _ hd
      refine .inr ⟨go, fun H' => ∃ G ps, AtG C F G ps H' (L2.wipe σ2 vs1) (sj (j + 1)) ((.ref D, .m ms0.length) :: (slotsOf σ2 s4.sl ++ pd)) (WalkD C.K C.cl J1 (ys.map inj) :: wk), fun H' ⟨G, ps, h⟩ => ⟨ys.length - (j + 1), by omega, rfl, hlt, G, ps, h⟩, fun x H' y => ?_⟩
      obtain ⟨G2, n, rx⟩ := yl x H' y
      have ww : L2.wipe (L2.wipe σ2 vs1) vs1 = L2.wipe σ2 vs1 := wipe_wipe fun _ h => h
      have et : ys.take (j + 1) = ys.take j ++ [ys[j]] := by
        rw [List.take_succ, hyj]
        rfl
      have back : ∀ {σ3 : L2.St} {H3 : Hp} {s3 : S} {acc' : List PyData}, s3.ms = ms0 ++ [some (acc'.map .d)] → s3.c = s4.c → At C F H3 σ3 s3 ((.ref D, .m ms0.length) :: (slotsOf σ2 s4.sl ++ pd)) (WalkD C.K C.cl J1 (ys.map inj) :: wk) →
          ∃ G ps, AtG C F G ps H3 (L2.wipe σ2 vs1) ⟨wipeW s4.sl vs1, ms0 ++ [some (acc'.map .d)], s4.c⟩ ((.ref D, .m ms0.length) :: (slotsOf σ2 s4.sl ++ pd)) (WalkD C.K C.cl J1 (ys.map inj) :: wk) := by
        rintro σ3 H3 s3 acc' em3 ec3 ⟨G3, ps3, a3⟩
        refine ⟨G3, ps3, ?_⟩
        have r := a3.reslot (σ' := L2.wipe σ2 vs1) (sl := wipeW s4.sl vs1) (by rw [wipe_length, wipeW_len]; exact a4.len) fun i w h1 h2 => by
          obtain ⟨h3, h4⟩ := wipeW_some h1 h2
          obtain ⟨v, e, _⟩ := a4.env i w h3 h2
          exact ⟨v, by rw [wipe_keep h4]; exact e, List.mem_cons_of_mem _ (List.mem_append_left _ (slots_mem e h3 (W.is_ne h2)))⟩
        have es : ({ s3 with sl := wipeW s4.sl vs1 } : S) = ⟨wipeW s4.sl vs1, ms0 ++ [some (acc'.map .d)], s4.c⟩ := by
          rw [← em3, ← ec3]
        rw [es] at r
        exact r
      have hb : g1 x (L2.wipe σ2 vs1) H' fun σ3 H5 => tt1 σ3 H5 fun bb H6 => if bb = true then te σ3 H6 fun y H7 => ∃ acc, H7 D = some (.lst acc) ∧ acc.length < sizeLine ∧
          (∃ G ps, AtG C F G ps (upd H7 D (.lst (acc ++ [y]))) (L2.wipe σ2 vs1) (sj (j + 1)) ((.ref D, .m ms0.length) :: (slotsOf σ2 s4.sl ++ pd)) (WalkD C.K C.cl J1 (ys.map inj) :: wk))
          else ∃ G ps, AtG C F G ps H6 (L2.wipe σ2 vs1) (sj (j + 1)) ((.ref D, .m ms0.length) :: (slotsOf σ2 s4.sl ++ pd)) (WalkD C.K C.cl J1 (ys.map inj) :: wk) := by
        refine turn ys[j] (List.getElem_mem hlt) (sj j) rfl rfl (fun k o hk => getElem?_app hk) F H' (L2.wipe σ2 vs1) x _ _ hx ⟨G2, ps, (a.step n).push (w := .d (inj ys[j])) rx⟩ _ fun σ3 H5 s3 f3 a3 => ?_
        refine f3 F H5 σ3 _ _ hx a3 _ fun bb H6 s5 ⟨eb, ec5, em5, k1⟩ a5 => ?_
        cases bb with
        | true =>
          show te σ3 H6 _
          refine k1 eb.symm F H6 σ3 _ _ hx a5 _ fun y2 H7 w s6 ⟨ew, ec6, em6⟩ ⟨G6, ps6, a6⟩ => ?_
          subst ew
          obtain ⟨p, hp, ep⟩ := a6.pop.top
          cases ep
          have em6' : s6.ms = ms0 ++ [some ((acc j).map W.d)] := em6
          have hm : s6.ms[ms0.length]? = some (some ((acc j).map W.d)) := by
            rw [em6', List.getElem?_append_right (Nat.le_refl _)]
            simp
          obtain ⟨_, _, vs6, eh6, r6⟩ := a6.ms _ D _ hp hm
          have hal : (acc j).length ≤ acc0.length + j := by
            simp only [acc, List.length_append, List.length_map]
            have := List.length_filter_le b (ys.take j)
            have := List.length_take_le j ys
            omega
          refine ⟨vs6, eh6, sz_lt (by rw [r6.length, List.length_map]; omega), ?_⟩
          have pt := a6.pop.put hp hm (ws' := (acc j ++ [f ys[j]]).map W.d) (vs := vs6 ++ [y2]) (by
            rw [List.map_append]
            exact PySem.Paired.snoc r6 a6.top)
          have eacc : acc (j + 1) = acc j ++ [f ys[j]] := by
            simp only [acc]
            rw [et, List.filter_append, List.map_append, List.filter_cons, if_pos eb.symm, List.append_assoc]
            rfl
          have := back (s3 := { s6 with ms := s6.ms.set ms0.length (some ((acc j ++ [f ys[j]]).map W.d)) }) (by
            show s6.ms.set _ _ = _
            rw [em6', List.set_append_right _ _ (Nat.le_refl _), Nat.sub_self]
            rfl) ec6 ⟨G6, ps6, pt⟩
          rw [← eacc] at this
          exact this
        | false =>
          show ∃ G ps, _
          have eacc : acc (j + 1) = acc j := by
            simp only [acc]
            rw [et, List.filter_append, List.map_append, List.filter_cons, if_neg (by rw [← eb]; exact Bool.false_ne_true)]
            simp
          have := back (acc' := acc j) em5 ec5 a5
          rw [← eacc] at this
          exact this
      have hb2 := hg x (L2.wipe σ2 vs1) H' _ hb
      rw [ww] at hb2
      exact hb2
    · have hj' : j = ys.length := by omega
      subst hj'
      refine .inl ⟨wd.2 (by rw [List.length_map]; exact Nat.le_refl _), ?_⟩
      have ea : acc ys.length = acc0 ++ (ys.filter b).map f := by simp only [acc, List.take_length]
      have a' := a.unwalk
      simp only [sj, ea] at a'
      exact done G ps H (L2.wipe σ2 vs1) (by rw [wipe_length]; exact a4.len) a'
theorem wpe_lc2P {α β : Type} (xs : List α) (inj : α → PyData) (b : α → Bool) (ys : α → List β) (inj1 : α → β → PyData) (b1 : α → β → Bool) (f : α → β → PyData) (m1 : Nat) (hg : TgW g vs) (hg1 : TgW g1 vs1) (h : wpi C wi s fun items s1 => items = xs.map inj ∧
    xs.length * m1 ≤ 99999 ∧ xs.length ≤ 99999 ∧
    (∀ x ∈ xs, (ys x).length ≤ m1 ∧ ∀ s2 : S, s2.sl = wipeW s1.sl vs → s2.c = s1.c → (∀ (k : Nat) o, s1.ms[k]? = some o → s2.ms[k]? = some o) → wpg C g (.d (inj x)) s2 fun s3 => wpt C tt s3 fun bb s4 => bb = b x ∧ s4.c = s1.c ∧ s4.ms = s2.ms ∧
      (b x = true → wpi C wi1 s4 fun items1 s5 => items1 = (ys x).map (inj1 x) ∧ s5.c = s1.c ∧ s5.ms = s2.ms ∧
        (∀ y ∈ ys x, ∀ s6 : S, s6.sl = wipeW s5.sl vs1 → s6.c = s1.c → (∀ (k : Nat) o, s1.ms[k]? = some o → s6.ms[k]? = some o) → wpg C g1 (.d (inj1 x y)) s6 fun s7 => wpt C tt1 s7 fun bb s8 => bb = b1 x y ∧ s8.c = s1.c ∧ s8.ms = s6.ms ∧ (b1 x y = true → wpe C te s8 fun w s9 => w = .d (f x y) ∧ s9.c = s1.c ∧ s9.ms = s6.ms)))) ∧
    Φ (.d (.list ((xs.filter b).flatMap fun x => ((ys x).filter (b1 x)).map (f x)))) s1) : wpe C (tLc2 wi g tt wi1 g1 tt1 te vs vs1) s Φ := fun F H σ pd wk hx a Q q =>
  h F H σ pd wk hx a _ fun J H1 items s1 ⟨ei, hm1, hxl, turn, fin⟩ ⟨G1, ps1, a1⟩ D hD => by
    subst ei
    let acc : Nat → List PyData := fun i => ((xs.take i).filter b).flatMap fun x => ((ys x).filter (b1 x)).map (f x)
    have hacc : ∀ i, i ≤ xs.length → (acc i).length ≤ i * m1 := by
      intro i
      induction i with
      | zero => intro _; simp [acc]
      | succ i ih =>
        intro hi
        have ih := ih (by omega)
        have hxi : xs[i]? = some xs[i] := List.getElem?_eq_getElem (by omega)
        have et : acc (i + 1) = acc i ++ (([xs[i]].filter b).flatMap fun x => ((ys x).filter (b1 x)).map (f x)) := by
          simp only [acc]
          rw [List.take_succ, hxi, List.filter_append, List.flatMap_append]
          rfl
        rw [et, List.length_append, Nat.succ_mul]
        have h1 : ((ys xs[i]).filter (b1 xs[i])).length ≤ m1 := Nat.le_trans (List.length_filter_le _ _) (turn xs[i] (List.getElem_mem (by omega))).1
        have : (([xs[i]].filter b).flatMap fun x => ((ys x).filter (b1 x)).map (f x)).length ≤ m1 := by
          by_cases hb : b xs[i] = true
          · rw [List.filter_cons, if_pos hb]
            simpa using h1
          · rw [List.filter_cons, if_neg hb]
            simp
        omega
    refine ⟨fun i m H => m = xs.length - i ∧ i ≤ xs.length ∧ ∃ G ps, AtG C F G ps H (L2.wipe σ vs) (s1.inC vs ((acc i).map .d) s1.c) ((.ref D, .m s1.ms.length) :: (slotsOf σ s1.sl ++ pd)) (WalkD C.K C.cl J (xs.map inj) :: wk),
      ⟨_, rfl, Nat.zero_le _, ?_⟩, ?_⟩
    · have b0 : AtG C F G1 ps1 H1 (L2.wipe σ vs) (s1.wipe vs) (slotsOf σ s1.sl ++ pd) (WalkD C.K C.cl J (xs.map inj) :: wk) := (a1.slots).wipe vs
      exact ⟨G1, _, b0.cell (vs := []) (ws := []) hD .nil⟩
    · rintro i m H ⟨rfl, hi, G, ps, a⟩
      have wd := (a.wkm _ List.mem_cons_self).2 i G H (Ex.refl G) a.gh
      by_cases hlt : i < xs.length
      · have hxi : xs[i]? = some xs[i] := List.getElem?_eq_getElem hlt
        have hd : (xs.map inj)[i]? = some (inj xs[i]) := by rw [List.getElem?_map, hxi]; rfl
        obtain ⟨go, yl⟩ := wd.1 _ hd
        obtain ⟨hym, turn1⟩ := turn xs[i] (List.getElem_mem hlt)
        have et : acc (i + 1) = acc i ++ (([xs[i]].filter b).flatMap fun x => ((ys x).filter (b1 x)).map (f x)) := by
          simp only [acc]
          rw [List.take_succ, hxi, List.filter_append, List.flatMap_append]
          rfl
        refine .inr ⟨go, fun H' => ∃ G ps, AtG C F G ps H' (L2.wipe σ vs) (s1.inC vs ((acc (i + 1)).map .d) s1.c) ((.ref D, .m s1.ms.length) :: (slotsOf σ s1.sl ++ pd)) (WalkD C.K C.cl J (xs.map inj) :: wk), fun H' ⟨G, ps, h⟩ => ⟨xs.length - (i + 1), by omega, rfl, hlt, G, ps, h⟩, fun x H' y => ?_⟩
        obtain ⟨G2, n, rx⟩ := yl x H' y
        have ww : L2.wipe (L2.wipe σ vs) vs = L2.wipe σ vs := wipe_wipe fun _ h => h
        have back : ∀ {σ3 : L2.St} {H3 : Hp} {s3 : S} {acc' : List PyData} {G3 : Hp} {ps3 : List Addr}, s3.ms = s1.ms ++ [some (acc'.map .d)] → s3.c = s1.c → AtG C F G3 ps3 H3 σ3 s3 ((.ref D, .m s1.ms.length) :: (slotsOf σ s1.sl ++ pd)) (WalkD C.K C.cl J (xs.map inj) :: wk) →
            AtG C F G3 ps3 H3 (L2.wipe σ vs) (s1.inC vs (acc'.map .d) s1.c) ((.ref D, .m s1.ms.length) :: (slotsOf σ s1.sl ++ pd)) (WalkD C.K C.cl J (xs.map inj) :: wk) := by
          rintro σ3 H3 s3 acc' G3 ps3 em ec a3
          have r := a3.reslot (σ' := L2.wipe σ vs) (sl := wipeW s1.sl vs) (by rw [wipe_length, wipeW_len]; exact a1.len) fun j w h1 h2 => by
            obtain ⟨h3, h4⟩ := wipeW_some h1 h2
            obtain ⟨v, e, _⟩ := a1.env j w h3 h2
            exact ⟨v, by rw [wipe_keep h4]; exact e, List.mem_cons_of_mem _ (List.mem_append_left _ (slots_mem e h3 (W.is_ne h2)))⟩
          have es : ({ s3 with sl := wipeW s1.sl vs } : S) = s1.inC vs (acc'.map .d) s1.c := by
            unfold S.inC
            rw [← em, ← ec]
          rw [es] at r
          exact r
        have hb : g x (L2.wipe σ vs) H' fun σ2 H2 => tt σ2 H2 fun bb H3 => if bb = true then wi1 σ2 H3 fun J1 H4 => ∃ W1 : Nat → Nat → Hp → Prop, (∃ m, W1 0 m H4) ∧ ∀ j k H, W1 j k H →
            (J1.stop j H ∧ ∃ G ps, AtG C F G ps H (L2.wipe σ vs) (s1.inC vs ((acc (i + 1)).map .d) s1.c) ((.ref D, .m s1.ms.length) :: (slotsOf σ s1.sl ++ pd)) (WalkD C.K C.cl J (xs.map inj) :: wk)) ∨ (J1.go j H ∧ ∃ Nx1 : Hp → Prop, (∀ H', Nx1 H' → ∃ k', k' < k ∧ W1 (j + 1) k' H') ∧ ∀ x H', J1.yld j H x H' → g1 x (L2.wipe σ2 vs1) H' fun σ3 H5 => L2.wipe σ3 vs1 = L2.wipe σ2 vs1 ∧ tt1 σ3 H5 fun bb H6 =>
              if bb = true then te σ3 H6 fun y H7 => ∃ acc, H7 D = some (.lst acc) ∧ acc.length < sizeLine ∧ Nx1 (upd H7 D (.lst (acc ++ [y]))) else Nx1 H6)
            else ∃ G ps, AtG C F G ps H3 (L2.wipe σ vs) (s1.inC vs ((acc (i + 1)).map .d) s1.c) ((.ref D, .m s1.ms.length) :: (slotsOf σ s1.sl ++ pd)) (WalkD C.K C.cl J (xs.map inj) :: wk) := by
          refine turn1 (s1.inC vs ((acc i).map .d) s1.c) rfl rfl (fun k o hk => getElem?_app hk) F H' (L2.wipe σ vs) x _ _ hx ⟨G2, ps, (a.step n).push (w := .d (inj xs[i])) rx⟩ _ fun σ2 H2 s2 f2 a2 => ?_
          refine f2 F H2 σ2 _ _ hx a2 _ fun bb H3 s3 ⟨eb, ec3, em3, k1⟩ a3 => ?_
          cases bb with
          | true =>
            show wi1 σ2 H3 _
            refine k1 eb.symm F H3 σ2 _ _ hx a3 _ fun J1 H4 items1 s5 ⟨ei1, ec5, em5, k2⟩ ⟨G5, ps5, a5⟩ => ?_
            subst ei1
            have hil := hacc i hi
            have h100 : (i + 1) * m1 ≤ xs.length * m1 := Nat.mul_le_mul_right _ hlt
            have em5' : s5.ms = s1.ms ++ [some ((acc i).map W.d)] := em5
            refine lc_inner hg1 hx (ys xs[i]) (inj1 xs[i]) (b1 xs[i]) (f xs[i]) em5' a5 (by rw [Nat.succ_mul] at h100; omega) (fun y hy s2 h1 h2 h3 => ?_) fun G ps H σ9 hσ a9 => ⟨G, ps, ?_⟩
            · rw [ec5] at h2
              rw [ec5]
              exact k2 y hy s2 h1 h2 h3
            · have ea : acc (i + 1) = acc i ++ ((ys xs[i]).filter (b1 xs[i])).map (f xs[i]) := by
                rw [et, List.filter_cons, if_pos eb.symm]
                simp
              rw [ea]
              have a10 := a9.sub (pd' := (.ref D, .m s1.ms.length) :: (slotsOf σ s1.sl ++ pd)) fun z hz => by
                rcases List.mem_cons.mp hz with e | hz
                · rw [e]; exact List.mem_cons_self
                · exact List.mem_cons_of_mem _ (List.mem_append_right _ hz)
              exact back (s3 := ⟨wipeW s5.sl vs1, s1.ms ++ [some ((acc i ++ ((ys xs[i]).filter (b1 xs[i])).map (f xs[i])).map W.d)], s5.c⟩) (acc' := acc i ++ ((ys xs[i]).filter (b1 xs[i])).map (f xs[i])) rfl ec5 a10
          | false =>
            show ∃ G ps, _
            obtain ⟨G3, ps3, a3⟩ := a3
            have ea : acc (i + 1) = acc i := by
              rw [et, List.filter_cons, if_neg (by rw [← eb]; exact Bool.false_ne_true)]
              simp
            rw [ea]
            exact ⟨G3, ps3, back em3 ec3 a3⟩
        have hb2 := hg x (L2.wipe σ vs) H' _ hb
        rw [ww] at hb2
        exact hb2
      · have hi' : i = xs.length := by omega
        subst hi'
        refine .inl ⟨wd.2 (by rw [List.length_map]; exact Nat.le_refl _), ?_⟩
        have ea : acc xs.length = (xs.filter b).flatMap fun x => ((ys x).filter (b1 x)).map (f x) := by simp only [acc, List.take_length]
        refine q _ _ _ _ ?_ (lc_fin a1 a)
        rw [ea]
        exact fin
end
end DL
set_option Elab.async false
set_option linter.all false
set_option maxRecDepth 100000
set_option maxHeartbeats 2000000
namespace DL
open PySem L2 Evl RZ
/-! ### 24. classes as they stand behind the top -/
def ClM (P : Program) (w : World) (K : PySem.W.Frag) (mg : Str → Option Value) (base : Heap) (CX : CXT) (C : Addr) (k : Nat) (x : Str) (ps : List Str) (sp : Sp) : Prop :=
  ∃ (f : Addr) (fd : FuncData), FnOk P w K mg base CX k f fd ps sp ∧ Mk K C f ∧ mg x = some (.ref C) ∧ Binds K fd ps []
theorem pe_mkc {X : Cx} {CX : CXT} {j k : Nat} {x : Str} {C : Addr} {ps : List Str} {sp : Sp} {E : XK} {e : Expr} {es : List Expr} {t : TA} {p pos : Pos} (c : ClM X.prog X.w X.K X.mg X.base CX C k x ps sp) (hr : Room j X.A) (hk : k + 1 ≤ j) (hg : Gl X x) (hx : Passes CX X E) (ha : PA X (e :: es) t)
    (hdb : (x == ("__debug__" : Str)) = false := by decide) (he : starEach (e :: es) X.env = (false, eval e X.env) :: starEach es X.env := by rfl) (hpl : (backTo pos (starEach es X.env)).any (·.1) = false := by rfl) :
    PE X (.Call (.Name x p) (e :: es) [] pos) (tMake C sp [] E t) := by
  obtain ⟨f, fd, F, M, hm, hb⟩ := c
  exact pe_make M F (hr.mono hk) hg hm hb .nil hx ha hdb he hpl
end DL
set_option Elab.async false
set_option linter.all false
set_option maxRecDepth 100000
set_option maxHeartbeats 2000000
namespace DL
open PySem L2 Evl RZ PySem.Spec PyProof.Rows
/-! ### 25. x = {k: v for ..}: the names are swapped -/
section
variable {X : Cx}
theorem ps_setDc {i : Nat} {y : Str} {py : Pos} {kx vx tg iter : Expr} {ifs : List Expr} {scope : Scope} {own : List (Str × Nat)} {pos spos : Pos} {wi : TI} {g : TG} {tt : TT} {tk tv : TE} (hc : X.calm = true) (hN : X.N.Nodup) (hy : X.N[i]? = some y) (hyl : X.env.scope.names.lookup y = some .local)
    (hsw : swapsWith (.DictComp kx vx [⟨tg, iter, ifs, 0⟩] scope pos) (some (.Name y py)) spos.line X.env = pure true) (hi : PI X tg iter wi) (ok : BlkOk X.N X.env.scope scope own)
    (hg : ∀ (s : Shared) (H : Hp) (C : Addr) (cl : List (Str × Addr)) (fp : List Addr), PG (X.blk s H scope (compEnvC scope cl C X.env) fp) tg g) (ht : ∀ (s : Shared) (H : Hp) (C : Addr) (cl : List (Str × Addr)) (fp : List Addr), PTs (X.blk s H scope (compEnvC scope cl C X.env) fp) ifs tt)
    (hk : ∀ (s : Shared) (H : Hp) (C : Addr) (cl : List (Str × Addr)) (fp : List Addr), PE (X.blk s H scope (compEnvC scope cl C X.env) fp) kx tk)
    (he : ∀ (s : Shared) (H : Hp) (C : Addr) (cl : List (Str × Addr)) (fp : List Addr), PE (X.blk s H scope (compEnvC scope cl C X.env) fp) vx tv) (hs : ∀ x, foldedSetIterable iter X.env x = pure x := by intro _; rfl) :
    PS X (.Assign [.Name y py] (.DictComp kx vx [⟨tg, iter, ifs, 0⟩] scope pos) spos) (tAsg (tDc wi g tt tk tv (own.map (·.2))) (gName i)) := by
  refine ⟨fun pins s σ H D I h => ?_⟩
  rw [exec_Assign_Name_used _ _ _ _ hsw]
  refine wpAny_bind (wpAny_standAt (wpAny_bind ?_))
  show wpAny _ X.A (do let _ ← comprehension (.DictComp kx vx [⟨tg, iter, ifs, 0⟩] scope pos) scope X.env (firstIterPos [⟨tg, iter, ifs, 0⟩] pos) newDict false (eval iter X.env) (some (assign (.Name y py) X.env))) _ _ s
  have h : tDc wi g tt tk tv (own.map (·.2)) σ H (fun x H1 => gName i x σ H1 D.nx) := h
  refine wpAny_bind (thn (dc_core (Qf := fun _ s' => SP X pins D .next s') hc hN I hi ok hg ht hk he hs h fun L C s' m H' I' q hn f => ?_) fun _ s' hq => wpAny_pure (wpAny_pure hq))
  show wpAny _ _ (assign (.Name y py) X.env (.ref L)) _ _ _
  refine wpAny_assign_Name (store_ok2 (v := V.ref L) I' hN hy (.inl hyl) rfl (fun s2 I2 ⟨a, sb, ha⟩ => ?_) (.inr hyl))
  obtain ⟨f0, f1, f2, f3, f4, f5⟩ := f
  have haC : C ≠ a := by
    rcases ha with z | z
    · rw [z]; exact f1
    · exact fun e => f4 y a z e.symm
  refine ⟨m, hn.sameBut sb haC, fun h3 sb3 => ?_⟩
  exact ⟨_, H', I2.turned (t' := s2.toks) (fun b o hb e => (sb3.2 b hb).trans e) f0 f1 f3 f4 f5, q⟩
theorem sw_trueD {kx vx : Expr} {gs : List Comprehension} {scope : Scope} {pos py : Pos} {y : Str} {l : Nat} {env : Env} (hk : env.scope.kind = .function) (hy : env.scope.names.lookup y = some .local) (hl : (py.line == pos.line) = true)
    (ha : (scope.names.any fun (n, k) => n == y && (k == .local || k == .cell)) = false) : swapsWith (.DictComp kx vx gs scope pos) (some (.Name y py)) l env = pure true := by
  have ky : env.kindOf y = some .local := hy
  have hb : env.blockKind = .function := by unfold Env.blockKind; rw [hk]; rfl
  unfold swapsWith
  simp only [hb, ky, ha, Expr.pos, hl]
  rfl
end
end DL
set_option Elab.async false
set_option linter.all false
set_option maxRecDepth 100000
set_option maxHeartbeats 2000000
namespace DL
open PySem L2 Evl RZ
/-! ### 26. [x] * n, to be changed -/
section
variable {C : Cn} {s : S} {Φ : W → S → Prop} {ta tb : TE}
theorem wpe_repM (h : wpe C ta s fun w1 s1 => wpe C tb s1 fun w2 s2 => ∃ ds i, w1 = .d (.list ds) ∧ w2 = .d (.int i) ∧ 0 ≤ i ∧ i ≤ 100000 ∧ ds.length * i.toNat ≤ 100000 ∧ Φ (.m s2.ms.length) (s2.new (List.replicate i.toNat (ds.map W.d)).flatten)) : wpe C (tOp rRep ta tb) s Φ :=
  wpe_op (h.imp fun w1 s1 h1 => h1.imp fun w2 s2 ⟨ds, i, e1, e2, i0, i1, hl, k⟩ F H σ x y pd wk ⟨G, ps, a⟩ Q q => by
    subst e1 e2
    have r1 : Rp C.K C.cl G x (.list ds) := a.pop.top
    cases r1 with
    | @lst p xs _ hp rl =>
      refine ⟨p, i, xs, rfl, rp_int a.top, a.gh _ _ hp, by omega, by omega, sz_of (by rw [rl.length]; exact hl), fun l hl => ?_⟩
      have er : (List.replicate i.toNat (ds.map W.d)).flatten = ((List.replicate i.toNat ds).flatten).map W.d := by
        rw [List.map_flatten, List.map_replicate]
      refine q _ _ _ _ k ⟨_, _, a.pop.pop.cell (vs := (List.replicate i.toNat xs).flatten) hl ?_⟩
      rw [er]
      exact rpw_of (RpL.flat rl))
end
end DL
set_option Elab.async false
set_option linter.all false
set_option maxRecDepth 100000
set_option maxHeartbeats 2000000
namespace DL
open PySem L2 Evl RZ
/-! ### 27. the pen of the laws -/
def penK (L : Addr) (a d k f : Int) : List (L2.Key × V) := [(.inr "cells", .ref L), (.inr "at", .int a), (.inr "digits", .int d), (.inr "count", .int k), (.inr "fold", .int f)]
theorem ke {x y : Str} {b : Bool} (h : decide (x = y) = b) : decide ((Sum.inr x : L2.Key) = .inr y) = b := by
  rw [← h, decide_eq_decide]
  exact ⟨fun e => by cases e; rfl, fun e => by rw [e]⟩
section
variable {L : Addr} {a d k f z : Int}
theorem vk0 {x : Str} {v : V} {r : List (L2.Key × V)} : valV ((.inr x, v) :: r) (.inr x) = some v := valV_pos rfl
theorem vk1 {x y : Str} {v : V} {r : List (L2.Key × V)} (h : decide (x = y) = false) : valV ((.inr x, v) :: r) (.inr y) = valV r (.inr y) := valV_neg (p := ((.inr x : L2.Key), v)) (of_decide_eq_false (ke h))
theorem pk_cells : valV (penK L a d k f) (.inr "cells") = some (.ref L) := vk0
theorem pk_at : valV (penK L a d k f) (.inr "at") = some (.int a) := (vk1 (by decide +kernel)).trans vk0
theorem pk_digits : valV (penK L a d k f) (.inr "digits") = some (.int d) := (vk1 (by decide +kernel)).trans ((vk1 (by decide +kernel)).trans vk0)
theorem pk_count : valV (penK L a d k f) (.inr "count") = some (.int k) := (vk1 (by decide +kernel)).trans ((vk1 (by decide +kernel)).trans ((vk1 (by decide +kernel)).trans vk0))
theorem pk_fold : valV (penK L a d k f) (.inr "fold") = some (.int f) := (vk1 (by decide +kernel)).trans ((vk1 (by decide +kernel)).trans ((vk1 (by decide +kernel)).trans ((vk1 (by decide +kernel)).trans vk0)))
theorem pp_old {x : Str} {kvs : List (L2.Key × V)} {v w : V} (h : valV kvs (.inr x) = some v) : putK kvs (.inr x) w = kvs.map fun kv => if kv.1 = .inr x then (kv.1, w) else kv := by
  unfold putK
  rw [if_pos (by rw [valV_any, h]; rfl)]
theorem ik {x y : Str} {v w : V} (h : decide (x = y) = false) : (if (Sum.inr x : L2.Key) = .inr y then ((Sum.inr x : L2.Key), w) else (.inr x, v)) = (.inr x, v) := if_neg (of_decide_eq_false (ke h))
theorem pp_at : putK (penK L a d k f) (.inr "at") (.int z) = penK L z d k f := by
  rw [pp_old pk_at]
  simp only [penK, List.map_cons, List.map_nil]
  rw [ik (by decide +kernel), if_pos True.intro, ik (by decide +kernel), ik (by decide +kernel), ik (by decide +kernel)]
theorem pp_digits : putK (penK L a d k f) (.inr "digits") (.int z) = penK L a z k f := by
  rw [pp_old pk_digits]
  simp only [penK, List.map_cons, List.map_nil]
  rw [ik (by decide +kernel), ik (by decide +kernel), if_pos True.intro, ik (by decide +kernel), ik (by decide +kernel)]
theorem pp_count : putK (penK L a d k f) (.inr "count") (.int z) = penK L a d z f := by
  rw [pp_old pk_count]
  simp only [penK, List.map_cons, List.map_nil]
  rw [ik (by decide +kernel), ik (by decide +kernel), ik (by decide +kernel), if_pos True.intro, ik (by decide +kernel)]
theorem pp_fold : putK (penK L a d k f) (.inr "fold") (.int z) = penK L a d k z := by
  rw [pp_old pk_fold]
  simp only [penK, List.map_cons, List.map_nil]
  rw [ik (by decide +kernel), ik (by decide +kernel), ik (by decide +kernel), ik (by decide +kernel), if_pos True.intro]
end
/-- the pen at P, its cells at L; c: how many draws at most -/
def PenAt (P L : Addr) (c : Nat) (H : Hp) : Prop := ∃ (a d k f : Int) (cs : List Int), H P = some (.dK (penK L a d k f)) ∧ H L = some (.lst (cs.map V.int)) ∧ 0 ≤ a ∧ 0 ≤ k ∧ k ≤ c ∧ 0 ≤ f ∧ f < 2147483587
/-- T: the tables of code objects -/
def stdPn (P L : Addr) (T : List (Addr × Str)) : Pn where
  P := P
  X := fun b => b = P ∨ b = L ∨ ∃ q, (b, q) ∈ T
  pen := fun c _ H => PenAt P L c H ∧ LamX.Tabs T H
  px := fun c G G' H H' _ h ⟨⟨a, d, k, f, cs, h1, h2, h3⟩, ht⟩ => ⟨⟨a, d, k, f, cs, h P _ h1 (.inl (.inl rfl)), h L _ h2 (.inl (.inr (.inl rfl))), h3⟩, fun p hp => by
    obtain ⟨ps, e1, e2, e3⟩ := ht p hp
    refine ⟨ps, h _ _ e1 (.inl (.inr (.inr ⟨p.2, hp⟩))), e2, fun pos cv hc => ?_⟩
    obtain ⟨c0, q1, q2⟩ := e3 pos cv hc
    exact ⟨c0, q1, h _ _ q2 (.inr ⟨_, rfl⟩)⟩⟩
  pe := fun c G H b ⟨⟨a, d, k, f, cs, h1, h2, h3⟩, ht⟩ hb => by
    rcases hb with rfl | rfl | ⟨q, hq⟩
    · rw [h1]
      exact fun z => nomatch z
    · rw [h2]
      exact fun z => nomatch z
    · obtain ⟨ps, e1, _⟩ := ht _ hq
      rw [e1]
      exact fun z => nomatch z
def pkD (T : List (Addr × Str)) (n : Pn) : Prop := ∃ P L, P ≠ L ∧ n = stdPn P L T
theorem pkD_x {T : List (Addr × Str)} : ∀ n : Pn, pkD T n → ∀ a c (G H : Hp), n.pen c G H → n.X a → H a ≠ none := fun n _ a c G H h hx => n.pe c G H a h hx
/-- the tables stay where only the dict at P changes -/
theorem tabs_at {T : List (Addr × Str)} {H H' : Hp} {P : Addr} {kvs : List (L2.Key × V)} (ht : LamX.Tabs T H) (hP : H P = some (.dK kvs)) (h : ∀ b, b ≠ P → H' b = H b) : LamX.Tabs T H' := fun p hp => by
  obtain ⟨ps, e1, e2, e3⟩ := ht p hp
  refine ⟨ps, by rw [h _ (fun z => by rw [z, hP] at e1; cases e1)]; exact e1, e2, fun pos cv hc => ?_⟩
  obtain ⟨c0, q1, q2⟩ := e3 pos cv hc
  exact ⟨c0, q1, by rw [h _ (fun z => by rw [z, hP] at q2; unfold LamX.CodeO at q2; cases q2)]; exact q2⟩
def tDraw (K : PySem.W.Frag) : TS :=
    (tSeq (sDPut (tVar 0) (tC (.str "count")) (tOp rAddI (tDGet (tVar 0) (tC (.str "count"))) (tC (.int 1))))
    (tSeq (tIfS (tAnd (tTest (tOp rEq (tDGet (tVar 0) (tC (.str "digits"))) (tC (.int 0)))) (tTest (tOp rLtI (tDGet (tVar 0) (tC (.str "at"))) (tCB (rLenS K) (tCons (tDGet (tVar 0) (tC (.str "cells"))) tNil))))) (tSeq (tAsg (tOp (rIx K) (tDGet (tVar 0) (tC (.str "cells"))) (tDGet (tVar 0) (tC (.str "at")))) (gName 2))
    (tSeq (sDPut (tVar 0) (tC (.str "at")) (tOp rAddI (tDGet (tVar 0) (tC (.str "at"))) (tC (.int 1))))
    (tIfS (tTest (tOp rGeI (tVar 2) (tOp rPowI (tC (.int 10)) (tC (.int 18))))) (sDPut (tVar 0) (tC (.str "digits")) (tOp rSubI (tVar 2) (tOp rPowI (tC (.int 10)) (tC (.int 18))))) (sDPut (tVar 0) (tC (.str "fold")) (tOp rModN (tCB rIntS (tCons (tOp rAddI (tOp rMulI (tDGet (tVar 0) (tC (.str "fold"))) (tC (.int 69069))) (tVar 2)) tNil)) (tC (.int 2147483587))))))) tNext)
    (tSeq (tIfS (tTest (tOp rGtI (tDGet (tVar 0) (tC (.str "digits"))) (tC (.int 0)))) (tSeq (tAsg (tOp rModN (tCB rIntS (tCons (tDGet (tVar 0) (tC (.str "digits"))) tNil)) (tVar 1)) (gName 3))
    (tSeq (sDPut (tVar 0) (tC (.str "digits")) (tOp rFdivN (tDGet (tVar 0) (tC (.str "digits"))) (tVar 1)))
    (tRet (tVar 3)))) tNext)
    (tSeq (tAsg (tOp rAddI (tOp rAddI (tDGet (tVar 0) (tC (.str "fold"))) (tOp rMulI (tDGet (tVar 0) (tC (.str "count"))) (tC (.int 7907)))) (tC (.int 37))) (gName 4))
    (tRet (tOp rModN (tOp rFdivN (tCB rIntS (tCons (tOp rModN (tOp rPowI (tVar 4) (tC (.int 17))) (tC (.int 2305843009213693951))) tNil)) (tC (.int 128))) (tVar 1)))))))
def W_draw : WfN := fun ds c Φ => ∃ many : Int, ds = [.int many] ∧ 1 ≤ many ∧ many ≤ 1000000 ∧ c < 1000000000 ∧ ∀ r, 0 ≤ r → r < many → Φ (.int r) (c + 1)
section
variable {P L : Addr} {a d k f : Int} {H : Hp}
theorem dg {x : Str} {v : V} {kvs : List (L2.Key × V)} (h : H P = some (.dK kvs)) (e : valV kvs (.inr x) = some v) : DGet H P (.str x) (some v) := by
  have := DGet.k (k := .inr x) h
  rw [e] at this
  exact this
theorem dp {x : Str} {v : V} {kvs kvs' : List (L2.Key × V)} (h : H P = some (.dK kvs)) (e : putK kvs (.inr x) v = kvs') (hl : kvs.length < sizeLine) : DPut H P (.str x) v (upd H P (.dK kvs')) := by
  rw [← e]
  exact DPut.k (k := .inr x) h hl
theorem pen_len : (penK L a d k f).length < sizeLine := by
  show 5 < sizeLine
  decide
/-- the last part: no digits are left -/
theorem draw_mix {K : PySem.W.Frag} {σ : L2.St} {Q : VK} {many : Int} (h0 : σ[0]? = some (some (.ref P))) (h1 : σ[1]? = some (some (.int many))) (hl : 4 < σ.length) (hP : H P = some (.dK (penK L a d k f))) (hm : 1 ≤ many) (hm2 : many ≤ 1000000) (hk : 0 ≤ k) (hk2 : k ≤ 1000000000) (hf : 0 ≤ f) (hf2 : f < 2147483587)
    (hq : ∀ r, 0 ≤ r → r < many → Q (.int r) H) : (tSeq (tAsg (tOp rAddI (tOp rAddI (tDGet (tVar 0) (tC (.str "fold"))) (tOp rMulI (tDGet (tVar 0) (tC (.str "count"))) (tC (.int 7907)))) (tC (.int 37))) (gName 4))
    (tRet (tOp rModN (tOp rFdivN (tCB rIntS (tCons (tOp rModN (tOp rPowI (tVar 4) (tC (.int 17))) (tC (.int 2305843009213693951))) tNil)) (tC (.int 128))) (tVar 1)))) { nx := fun _ H' => Q .non H', rt := Q } σ H := by
  refine ⟨_, h0, P, _, rfl, dg hP pk_fold, _, h0, P, _, rfl, dg hP pk_count, ?_⟩
  refine ⟨_, _, rfl, rfl, .inr ⟨by decide, by decide⟩, ?_⟩
  refine ⟨_, _, rfl, rfl, _, _, rfl, rfl, ?_⟩
  refine ⟨.int (f + k * 7907 + 37), by simp [hl], _, _, rfl, rfl, ⟨by decide, by decide, by omega⟩, ?_⟩
  refine ⟨_, _, rfl, rfl, by show (2305843009213693951 : Int) ≠ 0; decide, .inl ⟨_, rfl, ?_⟩⟩
  refine ⟨_, _, rfl, rfl, ⟨by decide, by decide⟩, _, ?_, _, _, rfl, rfl, by show many ≠ 0; omega, ?_⟩
  · rw [List.getElem?_set_ne (by decide)]
    exact h1
  · exact hq _ (Int.fmod_nonneg_of_pos (b := many) _ (by omega)) (Int.fmod_lt_of_pos (b := many) _ (by omega))
/-- the middle: the digits, if any are left -/
theorem draw_dig {K : PySem.W.Frag} {σ : L2.St} {Q : VK} {many : Int} (h0 : σ[0]? = some (some (.ref P))) (h1 : σ[1]? = some (some (.int many))) (hl : 4 < σ.length) (hP : H P = some (.dK (penK L a d k f))) (hm : 1 ≤ many) (hm2 : many ≤ 1000000) (hk : 0 ≤ k) (hk2 : k ≤ 1000000000) (hf : 0 ≤ f) (hf2 : f < 2147483587)
    (hq : ∀ r d' H', 0 ≤ r → r < many → H' P = some (.dK (penK L a d' k f)) → (∀ b, b ≠ P → H' b = H b) → Q (.int r) H') :
    (tSeq (tIfS (tTest (tOp rGtI (tDGet (tVar 0) (tC (.str "digits"))) (tC (.int 0)))) (tSeq (tAsg (tOp rModN (tCB rIntS (tCons (tDGet (tVar 0) (tC (.str "digits"))) tNil)) (tVar 1)) (gName 3))
    (tSeq (sDPut (tVar 0) (tC (.str "digits")) (tOp rFdivN (tDGet (tVar 0) (tC (.str "digits"))) (tVar 1)))
    (tRet (tVar 3)))) tNext)
    (tSeq (tAsg (tOp rAddI (tOp rAddI (tDGet (tVar 0) (tC (.str "fold"))) (tOp rMulI (tDGet (tVar 0) (tC (.str "count"))) (tC (.int 7907)))) (tC (.int 37))) (gName 4))
    (tRet (tOp rModN (tOp rFdivN (tCB rIntS (tCons (tOp rModN (tOp rPowI (tVar 4) (tC (.int 17))) (tC (.int 2305843009213693951))) tNil)) (tC (.int 128))) (tVar 1))))) { nx := fun _ H' => Q .non H', rt := Q } σ H := by
  refine ⟨_, h0, P, _, rfl, dg hP pk_digits, ?_⟩
  refine ⟨_, _, rfl, rfl, _, rfl, ?_⟩
  by_cases hd : 0 < d
  · rw [decide_eq_true hd]
    refine iteT ?_
    refine ⟨_, h0, P, _, rfl, dg hP pk_digits, .inl ⟨_, rfl, ?_⟩⟩
    refine ⟨_, h1, _, _, rfl, rfl, by show many ≠ 0; omega, ?_⟩
    have g1 : (σ.set 3 (some (V.int (d.fmod many))))[1]? = some (some (.int many)) := by
      rw [List.getElem?_set_ne (by decide)]
      exact h1
    have g0 : (σ.set 3 (some (V.int (d.fmod many))))[0]? = some (some (.ref P)) := by
      rw [List.getElem?_set_ne (by decide)]
      exact h0
    refine ⟨_, g0, P, _, rfl, dg hP pk_digits, _, g1, _, _, rfl, rfl, ⟨by omega, by omega⟩, ?_⟩
    refine ⟨_, g0, P, _, rfl, dp hP pp_digits pen_len, ?_⟩
    refine ⟨.int (d.fmod many), List.getElem?_set_self (by omega), hq _ _ _ (Int.fmod_nonneg_of_pos (b := many) _ (by omega)) (Int.fmod_lt_of_pos (b := many) _ (by omega)) upd_same fun b hb => upd_ne hb⟩
  · rw [decide_eq_false hd]
    refine iteF ?_
    exact draw_mix (K := K) h0 h1 hl hP hm hm2 hk hk2 hf hf2 fun r h2 h3 => hq r d H h2 h3 hP fun _ _ => rfl
theorem ok_draw {K : PySem.W.Frag} {T : List (Addr × Str)} {cl : Str → Option Addr} {N : List Str} {vs : List V} {H : Hp} {Q : VK} {E : XK} (hN : N.length = 5) (hsp : spN K cl (pkD T) W_draw vs H Q E) : tDraw K { nx := fun _ H' => Q .non H', rt := Q } (L2.start N vs) H := by
  obtain ⟨n, us, G, ds, c, Φ, ev, ⟨P, L, hPL, en⟩, eg, hx, r, hpen, ⟨many, ed, hm, hm2, hc, hΦ⟩, k1⟩ := hsp
  subst en ed ev
  cases r with
  | @cons u _ _ _ ru rn =>
    cases rn
    have eu := rp_int ru
    subst eu
    obtain ⟨⟨a, d, k, f, cs, hP, hL, ha, hk, hkc, hf, hf2⟩, htb⟩ := hpen
    have hP : H P = some (.dK (penK L a d k f)) := hP
    have es : L2.start N [V.ref P, .int many] = [some (.ref P), some (.int many), none, none, none] := by
      unfold L2.start
      rw [hN]
      rfl
    have gP : G P = none := hx P (.inl rfl)
    have gL : G L = none := hx L (.inr (.inl rfl))
    -- what every way out has
    have fin : ∀ r a' d' k' f' H', 0 ≤ r → r < many → H' P = some (.dK (penK L a' d' k' f')) → (∀ b, b ≠ P → H' b = H b) → 0 ≤ a' → 0 ≤ k' → k' ≤ k + 1 → 0 ≤ f' → f' < 2147483587 → Q (.int r) H' := fun r a' d' k' f' H' h1 h2 h3 h4 h5 h6 h7 h8 h9 =>
      k1 (.int r) (c + 1) (.int r) G H' (hΦ r h1 h2) (Ex.refl G) (fun b o e => by
        rw [h4 b (fun z => by rw [z, gP] at e; cases e)]
        exact eg b o e) (fun b o hb e => by
        rw [h4 b (fun z => hb (.inl z))]
        exact e) (fun _ _ g => g) ⟨⟨a', d', k', f', cs, h3, by rw [h4 L (Ne.symm hPL)]; exact hL, h5, h6, by push_cast; omega, h8, h9⟩, tabs_at htb hP h4⟩ (.int r)
    rw [show ([V.ref (stdPn P L T).P, V.int many] : List V) = [V.ref P, .int many] from rfl, es]
    have h0 : ∀ x2 x3 x4 : Option V, ([some (.ref P), some (.int many), x2, x3, x4] : L2.St)[0]? = some (some (.ref P)) := fun _ _ _ => rfl
    have h1 : ∀ x2 x3 x4 : Option V, ([some (.ref P), some (.int many), x2, x3, x4] : L2.St)[1]? = some (some (.int many)) := fun _ _ _ => rfl
    refine ⟨_, rfl, P, _, rfl, dg hP pk_count, _, _, rfl, rfl, _, rfl, P, _, rfl, dp hP pp_count pen_len, ?_⟩
    -- the heap with the count
    have hP1 : (upd H P (.dK (penK L a d (k + 1) f))) P = some (.dK (penK L a d (k + 1) f)) := upd_same
    have o1 : ∀ b, b ≠ P → (upd H P (.dK (penK L a d (k + 1) f))) b = H b := fun b hb => upd_ne hb
    generalize hH1 : upd H P (.dK (penK L a d (k + 1) f)) = H1 at hP1 o1
    have hL1 : H1 L = some (.lst (cs.map V.int)) := by rw [o1 L (Ne.symm hPL)]; exact hL
    have go : ∀ (a' d' f' : Int) (H' : Hp) (x2 : Option V), H' P = some (.dK (penK L a' d' (k + 1) f')) → (∀ b, b ≠ P → H' b = H b) → 0 ≤ a' → 0 ≤ f' → f' < 2147483587 → _ := fun a' d' f' H' x2 g1 g2 g3 g4 g5 =>
      draw_dig (K := K) (Q := Q) (h0 x2 none none) (h1 x2 none none) (by show 4 < 5; decide) g1 hm hm2 (by omega) (by omega) g4 g5 fun r d'' H'' q1 q2 q3 q4 => fin r a' d'' (k + 1) f' H'' q1 q2 q3 (fun b hb => (q4 b hb).trans (g2 b hb)) g3 (by omega) (by omega) g4 g5
    refine ⟨_, rfl, P, _, rfl, dg hP1 pk_digits, rfl, _, rfl, ?_⟩
    by_cases hd : d = 0
    · have e0 : decide (V.int d = V.int 0) = true := by
        rw [hd]
        simp
      rw [e0]
      refine iteT ?_
      refine ⟨_, rfl, P, _, rfl, dg hP1 pk_at, _, rfl, P, _, rfl, dg hP1 pk_cells, L, _, rfl, .inl (sq_of hL1), _, _, rfl, rfl, _, rfl, ?_⟩
      by_cases hlt : a < ((cs.map V.int).length : Int)
      · rw [decide_eq_true hlt]
        refine iteT ?_
        rw [List.length_map] at hlt
        obtain ⟨z, hz⟩ : ∃ z, cs[a.toNat]? = some z := ⟨_, List.getElem?_eq_getElem (by omega)⟩
        have hza : atI (cs.map V.int) a = some (.int z) := atI_nat ha (by rw [List.getElem?_map, hz]; rfl)
        refine ⟨_, rfl, P, _, rfl, dg hP1 pk_cells, _, rfl, P, _, rfl, dg hP1 pk_at, .inl ⟨L, _, _, _, rfl, rfl, sq_of hL1, hza, ?_⟩⟩
        refine ⟨_, rfl, P, _, rfl, dg hP1 pk_at, _, _, rfl, rfl, _, rfl, P, _, rfl, dp hP1 pp_at pen_len, ?_⟩
        have hP2 : (upd H1 P (.dK (penK L (a + 1) d (k + 1) f))) P = some (.dK (penK L (a + 1) d (k + 1) f)) := upd_same
        have o2 : ∀ b, b ≠ P → (upd H1 P (.dK (penK L (a + 1) d (k + 1) f))) b = H b := fun b hb => (upd_ne hb).trans (o1 b hb)
        generalize upd H1 P (.dK (penK L (a + 1) d (k + 1) f)) = H2 at hP2 o2
        refine ⟨_, rfl, _, _, rfl, rfl, ⟨by decide, by decide, by decide⟩, _, _, rfl, rfl, _, rfl, ?_⟩
        by_cases hb : (10 : Int) ^ (18 : Int).toNat ≤ z
        · rw [decide_eq_true hb]
          refine iteT ?_
          refine ⟨_, rfl, _, _, rfl, rfl, ⟨by decide, by decide, by decide⟩, _, _, rfl, rfl, _, rfl, P, _, rfl, dp hP2 pp_digits pen_len, ?_⟩
          exact go (a + 1) _ f _ (some (.int z)) upd_same (fun b hb => (upd_ne hb).trans (o2 b hb)) (by omega) hf hf2
        · rw [decide_eq_false hb]
          refine iteF ?_
          refine ⟨_, rfl, P, _, rfl, dg hP2 pk_fold, _, _, rfl, rfl, .inr ⟨by decide, by decide⟩, _, rfl, _, _, rfl, rfl, .inl ⟨_, rfl, _, _, rfl, rfl, by show (2147483587 : Int) ≠ 0; decide, ?_⟩⟩
          refine ⟨_, rfl, P, _, rfl, dp hP2 pp_fold pen_len, ?_⟩
          exact go (a + 1) d _ _ (some (.int z)) upd_same (fun b hb => (upd_ne hb).trans (o2 b hb)) (by omega) (Int.fmod_nonneg_of_pos _ (by decide)) (Int.fmod_lt_of_pos _ (by decide))
      · rw [decide_eq_false hlt]
        refine iteF ?_
        exact go a d f H1 none hP1 o1 ha hf hf2
    · have e0 : decide (V.int d = V.int 0) = false := by
        rw [decide_eq_false_iff_not]
        intro e
        exact hd (V.int.inj e)
      rw [e0]
      refine iteF ?_
      refine iteF ?_
      exact go a d f H1 none hP1 o1 ha hf hf2
/-! #### the pen is made -/
def tPen (K : PySem.W.Frag) : TS :=
    (tSeq (tAsg (tC (.int 0)) (gName 1))
    (tSeq (tFor (iList K (tVar 0)) (gName 2) (tAsg (tOp rModN (tCB rIntS (tCons (tOp rAddI (tOp rMulI (tVar 1) (tC (.int 47))) (tVar 2)) tNil)) (tC (.int 1000000007))) (gName 1)))
    (tRet (tDisp [((tC (.str "cells")), (tCB (rListS K) (tCons (tVar 0) tNil))), ((tC (.str "at")), (tC (.int 0))), ((tC (.str "digits")), (tC (.int 0))), ((tC (.str "count")), (tC (.int 0))), ((tC (.str "fold")), (tVar 1))]))))
def spPen (K : PySem.W.Frag) : Sp := fun vs H Q _ => ∃ (a : Addr) (ns : List Int), vs = [.ref a] ∧ SqL K H a (ns.map V.int) ∧ ∀ P L H', P ≠ L → H P = none → H L = none → PenAt P L 0 H' → (∀ b o, H b = some o → H' b = some o) → Q (.ref P) H'
theorem ok_pen {K : PySem.W.Frag} {N : List Str} {vs : List V} {H : Hp} {Q : VK} {E : XK} (hN : N.length = 3) (hsp : spPen K vs H Q E) : tPen K { nx := fun _ H' => Q .non H', rt := Q } (L2.start N vs) H := by
  obtain ⟨a, ns, rfl, hS, k1⟩ := hsp
  have es : L2.start N [V.ref a] = [some (.ref a), none, none] := by
    unfold L2.start
    rw [hN]
    rfl
  rw [es]
  refine ⟨_, rfl, a, rfl, ⟨_, hS⟩, for_list (K := K) (a := a) (xs := ns.map V.int) (fun i σ H2 => ∃ (f : Int) (v : Option V), H2 = H ∧ σ = [some (.ref a), some (.int f), v] ∧ 0 ≤ f ∧ f < 1000000007) ⟨0, none, rfl, rfl, by decide, by decide⟩ (fun i σ H2 _ ⟨_, _, e, _⟩ => by rw [e]; exact hS) ?_ ?_⟩
  · rintro i x σ H2 hx ⟨f, v, rfl, rfl, hf, hf2⟩
    obtain ⟨z, rfl⟩ : ∃ z, x = V.int z := by
      rw [List.getElem?_map] at hx
      cases e : ns[i]? with
      | none =>
        rw [e] at hx
        cases hx
      | some z =>
        rw [e] at hx
        exact ⟨z, (Option.some.inj hx).symm⟩
    refine ⟨_, rfl, _, _, rfl, rfl, .inr ⟨by decide, by decide⟩, _, rfl, _, _, rfl, rfl, .inl ⟨_, rfl, _, _, rfl, rfl, by show (1000000007 : Int) ≠ 0; decide, ?_⟩⟩
    exact ⟨_, _, rfl, rfl, Int.fmod_nonneg_of_pos _ (by decide), Int.fmod_lt_of_pos _ (by decide)⟩
  · rintro σ H2 ⟨f, v, rfl, rfl, hf, hf2⟩
    intro P hP
    refine ⟨_, rfl, a, _, rfl, .inl (?_ : SqL K _ a (ns.map V.int)), fun L hL => ?_⟩
    · exact ex_l (Ex.new hP) hS
    refine ⟨_, rfl, ?_⟩
    have hLP : L ≠ P := fun z => by
      rw [z, upd_same] at hL
      cases hL
    have hL0 : H2 L = none := by
      rw [upd_ne hLP] at hL
      exact hL
    refine ⟨by rw [upd_ne (Ne.symm hLP), upd_same], penK L 0 0 0 f, rfl, by show 5 ≤ 15; decide, ?_⟩
    have em : mergeK [] (penK L 0 0 0 f) = penK L 0 0 0 f := by
      have n0 : ∀ {y : Str}, valV ([] : List (L2.Key × V)) (.inr y) = none := rfl
      show putK (putK (putK (putK (putK [] (Sum.inr "cells" : L2.Key) (.ref L)) (Sum.inr "at" : L2.Key) (.int 0)) (Sum.inr "digits" : L2.Key) (.int 0)) (Sum.inr "count" : L2.Key) (.int 0)) (Sum.inr "fold" : L2.Key) (.int f) = _
      rw [putK_new _ n0, List.nil_append, putK_new _ ((vk1 (by decide +kernel)).trans n0)]
      show putK (putK (putK [_, _] (Sum.inr "digits" : L2.Key) (.int 0)) (Sum.inr "count" : L2.Key) (.int 0)) (Sum.inr "fold" : L2.Key) (.int f) = _
      rw [putK_new _ ((vk1 (by decide +kernel)).trans ((vk1 (by decide +kernel)).trans n0))]
      show putK (putK [_, _, _] (Sum.inr "count" : L2.Key) (.int 0)) (Sum.inr "fold" : L2.Key) (.int f) = _
      rw [putK_new _ ((vk1 (by decide +kernel)).trans ((vk1 (by decide +kernel)).trans ((vk1 (by decide +kernel)).trans n0)))]
      show putK [_, _, _, _] (Sum.inr "fold" : L2.Key) (.int f) = _
      rw [putK_new _ ((vk1 (by decide +kernel)).trans ((vk1 (by decide +kernel)).trans ((vk1 (by decide +kernel)).trans ((vk1 (by decide +kernel)).trans n0))))]
      rfl
    rw [em]
    refine k1 P L _ (Ne.symm hLP) hP hL0 ⟨0, 0, 0, f, ns, upd_same, by rw [upd_ne hLP, upd_same], by decide, by decide, by decide, hf, by omega⟩ fun b o e => ?_
    rw [upd_ne (fun z => by rw [z, hP] at e; cases e), upd_ne (fun z => by rw [z, hL0] at e; cases e), upd_ne (fun z => by rw [z, hP] at e; cases e)]
    exact e
end
section
variable {C : Cn} {s : S} {Φ : W → S → Prop} {ta tb tc : TE} {Wd : WfN} {E : XK} {i : Nat}
theorem wpe_pen (hi : s.sl[i]? = some .pen) (k : Φ .pen s) : wpe C (tVar i) s Φ := wpe_var hi rfl k
theorem wpe_cN0 (hi : s.sl[i]? = some .pen) (h : Wd [] s.c fun d c' => Φ (.d d) { s with c := c' }) : wpe C (tCall (spN C.K C.cl C.pk Wd) [] E (tCons (tVar i) tNil)) s Φ :=
  wpe_callN (wpa_cons (wpe_pen hi (wpa_nil ⟨[], rfl, h⟩)))
theorem wpe_cN1 (hi : s.sl[i]? = some .pen) (h : wpe C ta s fun w1 s1 => ∃ d1, w1 = .d d1 ∧ Wd [d1] s1.c fun d c' => Φ (.d d) { s1 with c := c' }) : wpe C (tCall (spN C.K C.cl C.pk Wd) [] E (tCons (tVar i) (tCons ta tNil))) s Φ :=
  wpe_callN (wpa_cons (wpe_pen hi (wpa_cons (h.imp fun w1 s1 ⟨d1, e1, k⟩ => wpa_nil ⟨[d1], by rw [e1]; rfl, k⟩))))
theorem wpe_cN2 (hi : s.sl[i]? = some .pen) (h : wpe C ta s fun w1 s1 => wpe C tb s1 fun w2 s2 => ∃ d1 d2, w1 = .d d1 ∧ w2 = .d d2 ∧ Wd [d1, d2] s2.c fun d c' => Φ (.d d) { s2 with c := c' }) : wpe C (tCall (spN C.K C.cl C.pk Wd) [] E (tCons (tVar i) (tCons ta (tCons tb tNil)))) s Φ :=
  wpe_callN (wpa_cons (wpe_pen hi (wpa_cons (h.imp fun w1 s1 h => wpa_cons (h.imp fun w2 s2 ⟨d1, d2, e1, e2, k⟩ => wpa_nil ⟨[d1, d2], by rw [e1, e2]; rfl, k⟩)))))
theorem wpe_cN3 (hi : s.sl[i]? = some .pen) (h : wpe C ta s fun w1 s1 => wpe C tb s1 fun w2 s2 => wpe C tc s2 fun w3 s3 => ∃ d1 d2 d3, w1 = .d d1 ∧ w2 = .d d2 ∧ w3 = .d d3 ∧ Wd [d1, d2, d3] s3.c fun d c' => Φ (.d d) { s3 with c := c' }) : wpe C (tCall (spN C.K C.cl C.pk Wd) [] E (tCons (tVar i) (tCons ta (tCons tb (tCons tc tNil))))) s Φ :=
  wpe_callN (wpa_cons (wpe_pen hi (wpa_cons (h.imp fun w1 s1 h => wpa_cons (h.imp fun w2 s2 h => wpa_cons (h.imp fun w3 s3 ⟨d1, d2, d3, e1, e2, e3, k⟩ => wpa_nil ⟨[d1, d2, d3], by rw [e1, e2, e3]; rfl, k⟩))))))
end
/-! #### the picks -/
abbrev DN (Φ : PyData → Nat → Prop) : DE := { nx := fun s => Φ .none s.c, rt := fun w s => ∃ d, w = .d d ∧ Φ d s.c }
def W_pick : WfN := fun ds c Φ => ∃ xs : List PyData, ds = [.list xs] ∧ xs ≠ [] ∧ xs.length ≤ 1000000 ∧ c < 1000000000 ∧ ∀ d ∈ xs, Φ d (c + 1)
def tPick (K : PySem.W.Frag) (sp : Sp) : TS := (tRet (tOp (rIx K) (tVar 1) (tCall sp [] E0 (tCons (tVar 0) (tCons (tCB (rLenS K) (tCons (tVar 1) tNil)) tNil)))))
theorem w_pick {C : Cn} {ds : List PyData} {c : Nat} {Φ : PyData → Nat → Prop} (h : W_pick ds c Φ) : wps C (tPick C.K (spN C.K C.cl C.pk W_draw)) (start0 (.pen :: ds.map .d) 2 c) (DN Φ) := by
  obtain ⟨xs, rfl, hx, hl, hc, h⟩ := h
  unfold tPick
  refine wps_ret (wpe_ix (wpe_var rfl rfl (wpe_cN1 rfl (wpe_len (wpa_cons (wpe_var rfl rfl (wpa_nil ⟨_, _, rfl, rfl, ?_⟩)))))))
  have hl0 : 0 < xs.length := List.length_pos_iff.mpr hx
  refine ⟨_, rfl, (xs.length : Int), by rw [List.length_map], by omega, by omega, hc, fun r h0 h1 => ?_⟩
  have hr : xs[r.toNat]? = some xs[r.toNat] := List.getElem?_eq_getElem (by omega)
  exact ⟨_, r, _, rfl, rfl, atI_d (atI_nat h0 hr), _, rfl, h _ (List.mem_of_getElem? hr)⟩
def W_listed : WfN := fun ds c Φ => ∃ xs : List PyData, (ds = [.list xs] ∨ ds = [.tuple xs]) ∧ c < 1000000000 ∧ Φ (.list xs) (c + 1) ∧ Φ (.tuple xs) (c + 1)
def tListed (K : PySem.W.Frag) (sp : Sp) : TS := (tRet (tIf (tTest (tOp rEq (tCall sp [] E0 (tCons (tVar 0) (tCons (tC (.int 2)) tNil))) (tC (.int 0)))) (tCB (rListS K) (tCons (tVar 1) tNil)) (tCB (rTupleS K) (tCons (tVar 1) tNil))))
theorem w_listed {C : Cn} {ds : List PyData} {c : Nat} {Φ : PyData → Nat → Prop} (h : W_listed ds c Φ) : wps C (tListed C.K (spN C.K C.cl C.pk W_draw)) (start0 (.pen :: ds.map .d) 2 c) (DN Φ) := by
  obtain ⟨xs, hd, hc, h1, h2⟩ := h
  unfold tListed
  obtain ⟨d, rfl, hs⟩ : ∃ d, ds = [d] ∧ ∀ s, seqW s (.d d) = some (xs.map W.d) := by
    rcases hd with rfl | rfl
    · exact ⟨_, rfl, fun _ => rfl⟩
    · exact ⟨_, rfl, fun _ => rfl⟩
  refine wps_ret (wpe_if (wpt_test (wpe_eqS (wpe_cN1 rfl (wpe_int ⟨_, rfl, 2, rfl, by decide, by decide, hc, fun r h0 h1' => wpe_int ⟨_, _, _, _, rfl, rfl, rfl, rfl, rfl, _, rfl, fun _ => ?_, fun _ => ?_⟩⟩)))))
  · exact wpe_listOf (wpa_cons (wpe_var rfl rfl (wpa_nil ⟨_, xs, rfl, hs _, _, rfl, h1⟩)))
  · exact wpe_tupleOf (wpa_cons (wpe_var rfl rfl (wpa_nil ⟨_, xs, rfl, hs _, _, rfl, h2⟩)))
end DL
set_option Elab.async false
set_option linter.all false
set_option maxRecDepth 100000
set_option maxHeartbeats 2000000
namespace DL
open PySem L2 Evl RZ
/-! ### 28. == of data -/
theorem eqv_nil {l : List PyData} : PyData.eqv (.list l) (.list []) = l.isEmpty := by
  cases l <;> simp [PyData.eqv, PyData.eqvAll]
theorem eqv_self {n : Nat} {d : PyData} (h : pl n d = true) : PyData.eqv d d = true := PySem.SeqAt.eqv_refl d (pl_shaped0 n d h).1
theorem pl_list {n : Nat} {l : List PyData} (h : ∀ d ∈ l, pl n d = true) : pl (n + 1) (.list l) = true := List.all_eq_true.mpr h
theorem pl_tuple {n : Nat} {l : List PyData} (h : ∀ d ∈ l, pl n d = true) : pl (n + 1) (.tuple l) = true := List.all_eq_true.mpr h
theorem pl_int {n : Nat} {i : Int} : pl n (.int i) = true := by cases n <;> rfl
theorem pl_none {n : Nat} : pl n .none = true := by cases n <;> rfl
theorem pl_iLl {n : Nat} {l : List Int} : pl (n + 1) (.list (iL l)) = true := pl_list fun d hd => by
  obtain ⟨i, _, rfl⟩ := List.mem_map.mp hd
  exact pl_int
theorem pl_iLt {n : Nat} {l : List Int} : pl (n + 1) (.tuple (iL l)) = true := pl_tuple fun d hd => by
  obtain ⟨i, _, rfl⟩ := List.mem_map.mp hd
  exact pl_int
theorem iL_inj {a b : List Int} (h : iL a = iL b) : a = b := by
  induction a generalizing b with
  | nil => cases b with
    | nil => rfl
    | cons y b => cases h
  | cons x a ih => cases b with
    | nil => cases h
    | cons y b =>
      simp only [iL, List.map_cons, List.cons.injEq, PyData.int.injEq] at h
      rw [h.1, ih h.2]
/-- if ..: return False, where the test fails -/
theorem wps_guard {C : Cn} {s : S} {D : DE} {tt : TT} {u : TS} (s' : S) (h : wpt C tt s fun b s1 => b = false ∧ s1 = s') (k : D.nx s') : wps C (tIfS tt u tNext) s D :=
  wps_if (h.imp fun b s1 ⟨e1, e2⟩ => ⟨fun e => (by rw [e1] at e; cases e), fun _ => by subst e2; exact wps_next k⟩)
theorem wps_guard0 {C : Cn} {s : S} {D : DE} {tt : TT} {u : TS} (h : wpt C tt s fun b s1 => b = false ∧ s1 = s) (k : D.nx s) : wps C (tIfS tt u tNext) s D := wps_guard s h k
theorem filter_map_ints {w : List Int} : (w.map PyData.int) = iL w := rfl
end DL
set_option Elab.async false
set_option linter.all false
set_option maxRecDepth 100000
set_option maxHeartbeats 4000000
/-! DLI: an own error whose __init__ says super().__init__(..) -/
namespace DLI
open PySem PySem.Spec PyProof.Rows L2 PySem.W PySem.Calls
/-- what the text says of the error's __init__ at f: its cell, its code, its class -/
structure SupC (P : Program) (K : PySem.W.Frag) (mg : Str → Option Value) (C cc cda : Addr) (fns : List Str) : Prop where
  ox : OexC K C
  cell : ∃ cl cld csl, K.lookup cc = some ⟨cl, cld, .cell (some (.ref C)), csl⟩
  code : ∃ ccl cdd ccs vs file tf, K.lookup cda = some ⟨ccl, cdd, .fields vs, ccs⟩ ∧ vs[2]? = some (.str file tf) ∧ ((P.main.file : Str) == file) = true
  sup : mg "super" = none
  sub : PySem.W.mroIn K C (.ref C) = some true
  opq : PySem.W.nsIn K cStatics "thirdparty.any" = some none
  ini : PySem.W.ks_superIn K C C "__init__" = some (some (.builtin "ValueError.__init__"))
  isE : PySem.W.subIn K (.ref C) (.type "ValueError") = some true
  top : (P.main.scope.names.lookup ("super" : Str)).isSome = false
  no : ∀ f ∈ fns, PySem.W.findIn K (.ref C) f = some none
/-- the names of such an __init__ -/
structure SupS (ps : List Str) (sc : Scope) : Prop where
  kind : sc.kind = .function
  co : sc.isCoroutine = false
  gen : sc.isGenerator = false
  nd : ps.Nodup
  par : ∀ x ∈ ps, sc.names.lookup x = some .local
  nocell : ∀ y ∈ sc.names, y.2 ≠ .cell
  sup : sc.names.lookup ("super" : Str) = some .globalImplicit
  cls : sc.names.lookup ("__class__" : Str) = some .free
  only : ∀ x, sc.names.lookup x = some .free → x = "__class__"
abbrev envS (qual : Str) (sc : Scope) (L f cda cc : Addr) : Env := PySem.W.ksEnv qual sc L f (.ref cda) cc
def cxS (P : Program) (w : World) (K : PySem.W.Frag) (mg : Str → Option Value) (base : Heap) (N : List Str) (qual : Str) (sc : Scope) (f cda cc : Addr) (A : Around) (outer : List Env) (s : Shared) (H : Hp) (xe : Value → Shared → Prop) : Cx where
  prog := P
  w := w
  K := K
  mg := mg
  base := base
  A := A.deeper (envS qual sc s.heap.objs.size f cda cc)
  N := N
  s_0 := s
  H_0 := H
  env := envS qual sc s.heap.objs.size f cda cc
  outer := outer
  stack := envS qual sc s.heap.objs.size f cda cc :: outer
  ex := []
  calm := true
  fn := fun _ => false
  pn := []
  xe := xe
theorem one_cell {x : Str} {c cc : Addr} (h : ([(("__class__" : Str), cc)] : List (Str × Addr)).lookup x = some c) : x = "__class__" ∧ c = cc := by
  by_cases e : x = "__class__"
  · subst e
    simp at h
    exact ⟨rfl, h.symm⟩
  · have : (x == ("__class__" : Str)) = false := by simpa using e
    simp [List.lookup, this] at h
theorem zip_look : ∀ {ps : List Str} {us : List Value} {i : Nat} {y : Str} {u : Value}, ps.Nodup → ps[i]? = some y → us[i]? = some u → ps.length = us.length → (ps.zip us).reverse.lookup y = some u := by
  intro ps us i y u nd h1 h2 hl
  have hm : (y, u) ∈ (ps.zip us).reverse := by
    rw [List.mem_reverse]
    refine List.mem_of_getElem? (i := i) ?_
    rw [List.getElem?_zip_eq_some]
    exact ⟨h1, h2⟩
  have hn : (((ps.zip us).reverse).map (·.1)).Nodup := by
    rw [List.map_reverse, (List.reverse_perm _).nodup_iff, List.map_fst_zip (by omega)]
    exact nd
  generalize (ps.zip us).reverse = l at hm hn
  induction l with
  | nil => cases hm
  | cons p l ih =>
    obtain ⟨a, b⟩ := p
    rw [List.map_cons, List.nodup_cons] at hn
    rcases List.mem_cons.mp hm with e | hm
    · cases e
      simp
    · have ne : (y == a) = false := by
        have : y ≠ a := fun z => hn.1 (by rw [← z]; exact List.mem_map.mpr ⟨(y, u), hm, rfl⟩)
        simpa using this
      simp only [List.lookup, ne]
      exact ih hm hn.2
theorem inv_startS {P : Program} {w : World} {K : PySem.W.Frag} {mg : Str → Option Value} {base : Heap} {ps : List Str} {qual : Str} {sc : Scope} {f cda cc C : Addr} {A : Around} {outer : List Env} {s : Shared} {H : Hp} {xe : Value → Shared → Prop} {us : List Value} {vs : List V} {fns : List Str}
    (S : SupS ps sc) (T : SupC P K mg C cc cda fns) (hd : A.handled = none) (e0 : Env0 P w K mg base A outer s H) (hl : vs.length = ps.length) (r : Vals vs us) {h0 : Heap} {tk : Nat} (hns : h0.Ns s.heap.objs.size fun x => (ps.zip us).reverse.lookup x) (hk : ∀ b o, s.heap.get? b = some o → h0.get? b = some o) :
    Inv (cxS P w K mg base ps qual sc f cda cc A outer s H xe) [] (vs.map some) H { s with heap := h0, toks := tk } := by
  obtain ⟨cl, cld, csl, hcc⟩ := T.cell
  have hbc : base.get? cc = some ⟨cl, cld, .cell (some (.ref C)), csl⟩ := e0.mod.kin _ _ hcc
  have hsc := (e0.bs _ _ hbc).1
  refine ⟨⟨e0.mod, S.kind, rfl, rfl, Nat.le_refl _, fun y z c h1 h2 => ?_, fun y hy => ?_, fun y c z _ => Bool.noConfusion (show false = true from z), fun _ => hd, Around.frames_deeper e0.frames, .inr ⟨rfl, rfl⟩, fun b z => absurd (show b ∈ ([] : List Addr) from z) (by simp), e0.bs, e0.bsz, fun b _ _ => (by show b ∉ ([] : List Addr); simp), fun b z => absurd (show b ∈ ([] : List Addr) from z) (by simp), e0.funs, e0.frf⟩,
    rfl, e0.bare, Un.kept hk, ⟨_, hns, fun i y v h1 h2 h3 => ?_⟩, fun y c h => ?_, e0.hok.fresh (Nat.le_refl _), fun y c h => ?_, fun p hp => absurd (show p ∈ ([] : List (Addr × Obj)) from hp) (by simp), e0.hok.kept hk, ?_⟩
  · rw [(one_cell h1).1, (one_cell h2).1]
  · rcases hy with hy | hy
    · exact absurd rfl (S.nocell _ (PySem.mem_of_lookup (show sc.names.lookup y = some .cell from hy)))
    · rw [S.only y hy]
      exact ⟨cc, (by simp : List.lookup ("__class__" : Str) [(("__class__" : Str), cc)] = some cc)⟩
  · rw [List.getElem?_map] at h2
    cases ea : vs[i]? with
    | none => rw [ea] at h2; cases h2
    | some a =>
      rw [ea] at h2
      cases h2
      obtain ⟨u, hu, rv⟩ := r.get ea
      have hlu : us.length = vs.length := r.length.symm
      exact ⟨u, rv, .inl ⟨S.par y (List.mem_of_getElem? h1), zip_look S.nd h1 hu (by omega)⟩⟩
  · rw [(one_cell h).2]
    exact ⟨_, ⟨_, hk _ _ hsc, rfl⟩⟩
  · rw [(one_cell h).2]
    exact (e0.bs _ _ hbc).2
  · show (vs.map some).length = ps.length
    rw [List.length_map]
    exact hl
/-- the object at a, an error that is made, in a heap that has grown or has changed at a alone -/
theorem inv_grown {X : Cx} {pins : List (Addr × Obj)} {σ : L2.St} {H : Hp} {s : Shared} {a C t1 : Addr} {h' : Heap} {t' : Nat} (I : Inv X pins σ H s) (ea : H a = some (exo a C none)) (k : ∀ b o, b ≠ a → s.heap.get? b = some o → h'.get? b = some o)
    (hx : h'.get? a = some ({ cls := .ref C, dict := none, data := .fields #[.ref t1, .none, .none, .none, .bool false, .none] } : Obj)) : Inv X pins σ H { s with heap := h', toks := t' } := by
  have J := I.write (t' := t') (x := a) (e := a) (o := exo a C none) (by rw [ea]; exact True.intro) (.inl rfl) k ⟨_, hx⟩ (exo_ok hx)
  have eu : upd H a (exo a C none) = H := by
    funext b
    by_cases hb : b = a
    · rw [hb, upd_same, ea]
    · rw [upd_ne hb]
  rw [eu] at J
  exact J
/-- the built-in __init__, bound to the object at a, is called -/
theorem call_mw {prog : Program} {w : World} {K : PySem.W.Frag} {C : Addr} {A : Around} {E : Value → Shared → Prop} {Q : Value → Shared → Prop} {h : Heap} {g : Array GenState} {d : Drawn} {t : Nat} {os : OsState} {u e t0 : Addr} {rest : List Value} (T : OexC K C) (X : K.In h) (hu : h.get? u = some (PySem.W.kxs_mw "ValueError.__init__" e))
    (he : h.get? e = some ({ cls := .ref C, dict := none, data := .fields #[.ref t0, .none, .none, .none, .bool false, .none] } : Obj)) (hz : rest.length ≤ sizeLine)
    (hq : ∀ h' t1, (∀ b o, b ≠ e → h.get? b = some o → h'.get? b = some o) → h'.get? e = some ({ cls := .ref C, dict := none, data := .fields #[.ref t1, .none, .none, .none, .bool false, .none] } : Obj) → Q .none ⟨h', g, d, t, os⟩) :
    wpAny (model prog w) A (call (.ref u) rest) Q E ⟨h, g, d, t, os⟩ := by
  obtain ⟨nm, q, N, bs, bm, sn, sub, ab, col, dd, k0, k1, k2, k3, k5, hC, hbm⟩ := T.cls
  refine wpAny_call (codeAny_of_tree ?_)
  show wpAny _ A.in1 (callAny (.ref u) ⟨rest, []⟩) _ _ _
  simp only [callAny]
  refine wpAny_bind (wpAny_load hu ?_)
  simp only [PySem.W.kxs_mw, show (Value.type "method-wrapper" == Value.type "method" || Value.type "method-wrapper" == Value.type "builtin_function_or_method" || Value.type "method-wrapper" == Value.type "method-wrapper") = true by decide, if_true]
  refine PySem.W.KFB.if_so (by decide) ?_
  refine wpAny_bind (PySem.W.check_bound_init F.excBase_ValueError.toExcCallFacts (X _ _ hC) he rfl ?_)
  refine wpAny_bind (wpAny_pure (wpAny_pure ?_))
  refine ⟨plainId_quiet F.excBase_ValueError.init.plain _, codeAny_builtin F.excBase_ValueError.initEntry ?_⟩
  exact PySem.W.exc_init_tree (cls := .ref C) (t0 := t0) (dv := none) (c2 := .none) (c3 := .none) (b4 := .bool false) he hz fun h' k e' _ => hq h' _ k e'
theorem boot_super : bootBuiltins "super" = some (.type "super") := by decide +kernel
/-- super().__init__(..), the first row of the body -/
theorem sup_row {P : Program} {w : World} {K : PySem.W.Frag} {mg : Str → Option Value} {base : Heap} {ps : List Str} {qual : Str} {sc : Scope} {f cda cc C a : Addr} {A : Around} {outer : List Env} {s : Shared} {H : Hp} {xe : Value → Shared → Prop} {fns : List Str} {params : Arguments} {body : List Stmt} {dV kV doc pm ct oc : Value} {an od : Option Addr} {osl : Array (Option Value)}
    {e1 : Expr} {es : List Expr} {ta : TA} {p0 p1 apos pos p2 : Pos} {ar : Arg} {σ : L2.St} {s1 : Shared} {Q : Flow → Shared → Prop}
    (S : SupS ps sc) (T : SupC P K mg C cc cda fns) (lk : K.lookup f = some ⟨oc, od, .func (PySem.W.ksFn "__init__" qual params body sc dV kV doc pm an (.ref cda) ct cc), osl⟩)
    (hp : (params.posonlyargs ++ params.args).head? = some ar) (hps : ps[0]? = some ar.arg) (I : Inv (cxS P w K mg base ps qual sc f cda cc A outer s H xe) [] σ H s1) (h0 : σ[0]? = some (some (.ref a))) (ea : H a = some (exo a C none))
    (ha : PA (cxS P w K mg base ps qual sc f cda cc A outer s H xe) (e1 :: es) ta) (ht : ta σ H fun vs H' => H' = H ∧ vs.length ≤ 1000)
    (hst : starEach (e1 :: es) (envS qual sc s.heap.objs.size f cda cc) = (false, eval e1 (envS qual sc s.heap.objs.size f cda cc)) :: starEach es (envS qual sc s.heap.objs.size f cda cc)) (hpl : (backTo pos (starEach es (envS qual sc s.heap.objs.size f cda cc))).any (·.1) = false)
    (hi : interactive (envS qual sc s.heap.objs.size f cda cc) = false) {pl : Sem Bool} (he : eval (.Call (.Attribute (.Call (.Name "super" p0) [] [] p1) "__init__" apos) (e1 :: es) [] pos) (envS qual sc s.heap.objs.size f cda cc) = (do
      let ov ← attributeBase (.Call (.Name "super" p0) [] [] p1) "__init__" (envS qual sc s.heap.objs.size f cda cc) (eval (.Call (.Name "super" p0) [] [] p1) (envS qual sc s.heap.objs.size f cda cc))
      standAt apos.atName
      let (fx, first) ← holding [ov] (getMethod ov "__init__" pl)
      callWith pos fx first (backTo pos (starEach (e1 :: es) (envS qual sc s.heap.objs.size f cda cc))) []))
    (hq : ∀ s', Inv (cxS P w K mg base ps qual sc f cda cc A outer s H xe) [] σ H s' → Q .next s') :
    _root_.PySem.wpAt (model P w) (A.deeper (envS qual sc s.heap.objs.size f cda cc)) (.func body (envS qual sc s.heap.objs.size f cda cc)) (exec (.Expr (.Call (.Attribute (.Call (.Name "super" p0) [] [] p1) "__init__" apos) (e1 :: es) [] pos) p2) (envS qual sc s.heap.objs.size f cda cc)) Q xe s1 := by
  refine ks_wpAt_Expr_any (ks_wpAt_MethodCall (pl := pl) ?_ he) (hi := hi)
  obtain ⟨ccl, cdd, ccs, vs, file, tf, hcd, hvs, hfile⟩ := T.code
  obtain ⟨cl, cld, csl, hcc⟩ := T.cell
  obtain ⟨nm, q, N, bs, bm, sn, sub, ab, col, dd, k0, k1, k2, k3, k5, hC, hbm⟩ := T.ox.cls
  have X : K.In s1.heap := I.kIn
  obtain ⟨t0, hoe⟩ := exo_at I.hok ea
  obtain ⟨m, hns, hlook⟩ := id I.loc
  have hself : m ar.arg = some (.ref a) := by
    obtain ⟨u, ru, hl⟩ := hlook 0 ar.arg (.ref a) hps h0 (.inl (S.par _ (List.mem_of_getElem? hps)))
    obtain rfl : u = Value.ref a := ru
    rcases hl with ⟨_, z⟩ | ⟨z, _⟩
    · exact z
    · have := S.par _ (List.mem_of_getElem? hps)
      rcases z with z | z
      · have z : sc.names.lookup ar.arg = some .cell := z
        rw [this] at z
        cases z
      · have z : sc.names.lookup ar.arg = some .free := z
        rw [this] at z
        cases z
  obtain ⟨mb, hb, hbb⟩ := I.ok.mod.blt
  refine ks_wpAt_super_base (env := envS qual sc s.heap.objs.size f cda cc) S.sup S.cls (by decide) rfl (X _ _ lk) rfl hp rfl (X _ _ hcd) rfl hvs hfile T.top ?_
  refine PySem.W.ks_loadName_global S.kind S.sup (Calls.loadGlobal_builtin (I.ok.mod.glob.keeps I.bk) T.sup (hb.keeps I.bk) ((hbb "super" (by decide +kernel)).trans boot_super) ⟨rfl, ?_⟩)
  have hcell : s1.heap.IsCell cc (some (.ref C)) := ⟨_, X _ _ hcc, rfl⟩
  refine wpAny_loadName_free S.kind S.cls (c := cc) (by simp) hcell ?_
  refine wpAny_loadName_local S.kind (S.par _ (List.mem_of_getElem? hps)) hns hself ?_
  obtain ⟨hp1, g, d, tk, os⟩ := s1
  have hCh := X _ _ hC
  refine ks_wpAny_isType_cls hCh rfl ⟨rfl, ?_⟩
  refine ks_wpAny_call_super hCh rfl hoe rfl (fun c z => by cases z) (PySem.W.looks_mroIn X T.sub) fun h2 hso k2 => ?_
  have X2 : K.In h2 := fun b o e => k2 b o (X b o e)
  have hoe2 := k2 _ _ hoe
  have hlt : a < hp1.objs.size := Heap.lt_size hoe
  have IA : PySem.W.InstAt h2 a { cls := .ref C, dict := none, data := .fields #[.ref t0, .none, .none, .none, .bool false, .none] } C none := ⟨hoe2, rfl, rfl, trivial⟩
  have haC : a ≠ C := fun z => by
    rw [z] at hoe
    rw [hCh] at hoe
    cases hoe
  cases hcl : PySem.W.clsIn K C with
  | none =>
    have hn := T.ini
    unfold PySem.W.ks_superIn at hn
    rw [hcl] at hn
    cases hn
  | some cd =>
    have hini := T.ini
    unfold PySem.W.ks_superIn at hini
    rw [hcl] at hini
    refine PySem.W.kxs_getMethod PySem.W.kxs_ValueError hso (PySem.W.looks_opaque X2 T.opq) (l₀ := cd.mro) (fun A Q E s k q => wpAny_bind ((PySem.W.looks_clsIn X2 hcl) A _ E s k (wpAny_pure q))) rfl X2 hini (IA.type.andThen (PySem.W.looks_subIn X2 T.isE)) haC (by decide) ?_
    show wpAny _ _ (callWith pos (.ref h2.objs.size) [] _ []) _ _ _
    rw [hst]
    refine PySem.W.kxs_callWith (i := "ValueError.__init__") (x := a) (by show (false || (backTo pos (starEach es (envS qual sc s.heap.objs.size f cda cc))).any (·.1)) = false; rw [hpl]; rfl) ?_
    refine evalArgs_plain ?_
    -- the state in which the arguments are made
    have k3 : ∀ b o, hp1.get? b = some o → (h2.push (PySem.W.kxs_mw "ValueError.__init__" a)).get? b = some o := fun b o e => Heap.get?_push_of_some _ (k2 b o e)
    have I3 : L2.Inv (cxS P w K mg base ps qual sc f cda cc A outer s H xe) [] σ H ⟨h2.push (PySem.W.kxs_mw "ValueError.__init__" a), g, d, tk + 1, os⟩ := inv_grown (s := ⟨hp1, g, d, tk, os⟩) (t' := tk + 1) I ea (fun b o _ e => k3 b o e) (k3 _ _ hoe)
    have hu : (h2.push (PySem.W.kxs_mw "ValueError.__init__" a)).get? h2.objs.size = some (PySem.W.kxs_mw "ValueError.__init__" a) := Heap.get?_push_at rfl rfl
    have hge : hp1.objs.size ≤ h2.objs.size := Nat.le_of_lt (Heap.lt_size hso)
    have I4 := I3.pins_of (pins' := [(h2.objs.size, PySem.W.kxs_mw "ValueError.__init__" a)]) fun p hpm => by
      have : p = (h2.objs.size, PySem.W.kxs_mw "ValueError.__init__" a) := by simpa using hpm
      subst this
      refine ⟨hu, I.hok.fresh hge, fun z => ?_, I.nofs hge, fun v z => by cases z⟩
      have := I.lt
      rw [← z] at this
      exact Nat.lt_irrefl _ (Nat.lt_of_lt_of_le this hge)
    have hrun := ha.run pos _ _ σ H _ I4 ht
    have hst' : starEach (e1 :: es) (cxS P w K mg base ps qual sc f cda cc A outer s H xe).env = (false, eval e1 (envS qual sc s.heap.objs.size f cda cc)) :: starEach es (envS qual sc s.heap.objs.size f cda cc) := hst
    rw [hst'] at hrun
    refine thn (t := spliced (backTo pos ((false, eval e1 (envS qual sc s.heap.objs.size f cda cc)) :: starEach es (envS qual sc s.heap.objs.size f cda cc)))) hrun fun us s4 hh => ?_
    obtain ⟨vs, H4, I5, r, eH, hz⟩ := hh
    subst eH
    obtain ⟨hp4, g4, d4, t4, os4⟩ := s4
    have hu4 : hp4.get? h2.objs.size = some (PySem.W.kxs_mw "ValueError.__init__" a) := (I5.pin (h2.objs.size, _) (by simp)).1
    obtain ⟨t5, hoe4⟩ := exo_at I5.hok ea
    refine ⟨hu4, ?_⟩
    show wpAny _ _ (call (.ref h2.objs.size) us) _ _ _
    refine call_mw T.ox I5.kIn hu4 hoe4 (by rw [← r.length, sizeLine_eq]; omega) fun h' t1 k' e' => ?_
    exact hq _ (inv_grown (s := ⟨hp4, g4, d4, t4, os4⟩) (t' := t4) (I5.pins_of (pins' := []) fun p hpm => by cases hpm) ea k' e')
/-- the __init__ keeps its promise -/
theorem sup_fn {P : Program} {w : World} {K : PySem.W.Frag} {mg : Str → Option Value} {base : Heap} {ps fns : List Str} {qual : Str} {sc : Scope} {f cda cc C : Addr} {params : Arguments} {rest : List Stmt} {dV kV doc pm ct oc : Value} {an od : Option Addr} {osl : Array (Option Value)}
    {e1 : Expr} {es : List Expr} {p0 p1 apos pos p2 : Pos} {ar : Arg} {ta : TA} {t : TS} {pl : Sem Bool}
    (S : SupS ps sc) (T : SupC P K mg C cc cda fns)
    (lk : K.lookup f = some ⟨oc, od, .func (PySem.W.ksFn "__init__" qual params (.Expr (.Call (.Attribute (.Call (.Name "super" p0) [] [] p1) "__init__" apos) (e1 :: es) [] pos) p2 :: rest) sc dV kV doc pm an (.ref cda) ct cc), osl⟩) (hcd : PySem.W.codeIn K (.ref cda) qual = true)
    (hp : (params.posonlyargs ++ params.args).head? = some ar) (hps : ps[0]? = some ar.arg) (hpl : ps.length = fns.length + 1)
    (ha : ∀ A outer s H xe, PA (cxS P w K mg base ps qual sc f cda cc A outer s H xe) (e1 :: es) ta) (hr : ∀ A outer s H xe, PSs (cxS P w K mg base ps qual sc f cda cc A outer s H xe) rest t)
    (hta : ∀ (a : Addr) (us : List V) (H : Hp), us.length = fns.length → ta (some (.ref a) :: us.map some) H fun vs H' => H' = H ∧ vs.length ≤ 1000)
    (htt : ∀ (a : Addr) (us : List V) (H : Hp) (Q : VK), us.length = fns.length → H a = some (exo a C none) → (∀ dx, H dx = none → dx ≠ a → Q .non (upd (upd H dx (exd dx (fns.zip us).reverse)) a (exo a C (some dx)))) → t { nx := fun _ H' => Q .non H', rt := Q } (some (.ref a) :: us.map some) H)
    (hst : ∀ env : Env, starEach (e1 :: es) env = (false, eval e1 env) :: starEach es env) (hpl2 : ∀ env : Env, (backTo pos (starEach es env)).any (·.1) = false)
    (hi : ∀ L, interactive (envS qual sc L f cda cc) = false) (he : ∀ L, eval (.Call (.Attribute (.Call (.Name "super" p0) [] [] p1) "__init__" apos) (e1 :: es) [] pos) (envS qual sc L f cda cc) = (do
      let ov ← attributeBase (.Call (.Name "super" p0) [] [] p1) "__init__" (envS qual sc L f cda cc) (eval (.Call (.Name "super" p0) [] [] p1) (envS qual sc L f cda cc))
      standAt apos.atName
      let (fx, first) ← holding [ov] (getMethod ov "__init__" pl)
      callWith pos fx first (backTo pos (starEach (e1 :: es) (envS qual sc L f cda cc))) [])) :
    FnOk P w K mg base C8.CX0 1 f (PySem.W.ksFn "__init__" qual params (.Expr (.Call (.Attribute (.Call (.Name "super" p0) [] [] p1) "__init__" apos) (e1 :: es) [] pos) p2 :: rest) sc dV kV doc pm an (.ref cda) ct cc) ps (DL.spXI C fns) := by
  refine ⟨fun vs H Q E h => ?_, fun A outer s H args us vs Q E hrm e0 hb r hsp => ?_⟩
  · obtain ⟨a, us, rfl, hl, _⟩ := h
    rw [List.length_cons, hl, hpl]
  · obtain ⟨a, ws, ev, hl, ea, kq⟩ := hsp
    subst ev
    have KX : K.In s.heap := e0.mod.kin.keeps fun b o e => (e0.bs b o e).1
    have lim : s.heap.NoLimit := e0.mod.nolimit.keeps fun b o e => (e0.bs b o e).1
    refine ks_codeAny_call_defAt (binds := ps.zip us) hrm.depth (KX _ _ lk) rfl lim (PySem.W.codeRec_of KX hcd) rfl hb S.nocell (fun x hx => S.par _ (List.of_mem_zip hx).1) (fun h0 hns hk => ?_) S.co S.gen S.kind
    refine ks_wpAt_execs_cons ?_
    have hl2 : (V.ref a :: ws).length = ps.length := by rw [List.length_cons, hl, hpl]
    refine sup_row (a := a) (xe := fun e s' => wpAny (model P w) (A.deeper (envS qual sc s.heap.objs.size f cda cc)) (leaving (envS qual sc s.heap.objs.size f cda cc) e) (fun _ s'' => CR C8.CX0 outer P w H s Q E (.error e) s'') (fun e' s'' => CR C8.CX0 outer P w H s Q E (.error e') s'') s') S T lk hp hps (inv_startS S T hrm.hd e0 hl2 r hns hk) rfl ea (ha _ _ _ _ _) (hta a ws H hl) (hst _) (hpl2 _) (hi _) (he _) fun s' I' => ?_
    refine wpAt_of_wpAny (wpAny_mono ((hr _ _ _ _ _).run [] s' _ H _ I' (htt a ws H Q hl ea kq)) (fun fl s2 hs => ?_) fun e s2 hs => hs)
    cases fl with
    | ret u =>
      obtain ⟨v, σ', H', J, rv, q⟩ := hs
      exact ⟨v, H', J.os, J.bare, J.base, J.hok, rv, q⟩
    | next =>
      obtain ⟨σ', H', J, q⟩ := hs
      exact ⟨.non, H', J.os, J.bare, J.base, J.hok, rfl, q⟩
    | brk =>
      obtain ⟨_, _, _, q⟩ := hs
      exact False.elim q
    | cont =>
      obtain ⟨_, _, _, q⟩ := hs
      exact False.elim q
end DLI
set_option Elab.async false
set_option linter.all false
set_option maxRecDepth 100000
set_option maxHeartbeats 4000000
/-! DLX: several clauses except x as n -/
namespace L2
open PySem PySem.Spec PyProof.Rows
/-- the ends of a suite whose name goes -/
def goneD (i : Nat) (D : Ends) : Ends := { nx := fun σ' H' => D.nx (σ'.set i none) H', rt := D.rt, bk := fun σ' H' => D.bk (σ'.set i none) H', ct := fun σ' H' => D.ct (σ'.set i none) H' }
/-- what the clauses wish, slot i being the name's -/
def wManyA (K : PySem.W.Frag) (Wout : WX) (D : Ends) (i : Nat) : List (Value × (Addr → Value → Option Addr → TS)) → WX
  | [] => Wout
  | (c, ts) :: r => fun cls d σ H => ∃ b, PySem.W.exmOne K cls c = some b ∧ (b = true → ∀ a, H a = none → ts a cls d (goneD i D) (σ.set i (some (.ref a))) H) ∧ (b = false → wManyA K Wout D i r cls d σ H)
inductive HdsA (X : Cx) (n : Str) : List ExceptHandler → List (Value × (Addr → Value → Option Addr → TS)) → Prop
  | nil : HdsA X n [] []
  | cons {x : Str} {c : Value} {ts : Addr → Value → Option Addr → TS} {b₀ : Stmt} {suite : List Stmt} {np pos' : Pos} {hds : List ExceptHandler} {l : List (Value × (Addr → Value → Option Addr → TS))} (hc : Names X x c)
      (hsu : ∀ (a : Addr) (oe : Obj) (cls : Value) (d : Option Addr) (pn : List (Addr × Obj)), Zc cls d oe → (∃ vs, oe.data = .fields vs) → PSs (X.suite a ((a, oe) :: pn)) (b₀ :: suite) (ts a cls d)) (r : HdsA X n hds l) :
      HdsA X n (.ExceptHandler (some (.Name x np)) (some n) (b₀ :: suite) pos' :: hds) ((c, ts) :: l)
section
variable {X : Cx} {n : Str} {i : Nat} {body : List Stmt} {h₀ : ExceptHandler} {hds : List ExceptHandler} {l : List (Value × (Addr → Value → Option Addr → TS))} {pos : Pos} {tb : WX → TS} {Wout : WX}
theorem ps_try_manyAs (hs : X.stack = X.env :: X.outer) (hf : X.env.frame = some X.env.locals) (hN : X.N.Nodup) (hi : X.N[i]? = some n) (hln : X.env.kindOf n = some .local) (tk : Takes X Wout)
    (hb : ∀ (W : WX) (pn : List (Addr × Obj)) (xe : Value → Shared → Prop), Takes (X.tr pn xe) W → PassesOwn (model X.prog X.w) X.A X.env xe → PSs (X.tr pn xe) body (tb W))
    (hh : HdsA X n (h₀ :: hds) l) : PS X (.Try body (h₀ :: hds) [] [] pos) (fun D σ H => tb (fun cls d σ H => σ.length = X.N.length → wManyA X.K Wout D i l cls d σ H) D σ H) := by
  refine ⟨fun pins s σ H D I h => ?_⟩
  have ok := I.ok
  have hfr : X.A.frames = some (X.env :: X.outer) := by rw [ok.frames, hs]
  have hloc : Loc X.env.scope n := .inl hln
  refine wpAny_Try_except ?_
  refine wpAny_mono ((hb (fun cls d σ H => σ.length = X.N.length → wManyA X.K Wout D i l cls d σ H) (X.pn ++ pins) (fun e s₁ => wpAny (model X.prog X.w) X.A (noteFrame e X.env) (fun _ s₂ => wpAny (model X.prog X.w) X.A (setFlight e none) (fun _ s₃ =>
    wpAny (model X.prog X.w) X.A (handleBy e X.env (h₀ :: hds)) (SP X pins D) X.xe s₃) X.xe s₂) X.xe s₁) (fun u s' xx => ?_) PassesOwn.looking).run [] s σ H D (I.toTry _) h) (fun f s1 hsp => ?_) (fun e s1 he => he)
  · -- an error of the body: first what is the same for all clauses
    obtain ⟨a, B, sI, pins', σ', H', cls, d, rfl, J', nb, up, sky, na, os, ag, w⟩ := xx
    have J : Inv X pins σ' H' sI := J'.ofTry ok
    have sky' : Sky B (X.env :: X.outer) a (Zc cls d) X.env.locals s'.heap := by rw [← hs]; exact sky
    show wpAny (model X.prog X.w) X.A (noteFrame (.ref a) X.env) _ _ _
    refine Sky.land Zc.steady hfr hf sky' fun h3 fl3 up3 => ?_
    have J3 : Inv X pins σ' H' { s' with heap := h3 } := J.landed nb fl3.1 (up.trans up3) os ag
    obtain ⟨oe3, vs3, he3, hz3, hd3⟩ := fl3.there
    have nfr : a ∉ frs (X.env :: X.outer) := fun hm => by
      obtain ⟨_, o', e', hnf⟩ := fl3.2.2.1.mem hm
      rw [he3] at e'; cases e'
      exact hnf _ hd3
    have nL : a ≠ X.env.locals := fun z => nfr (List.mem_filterMap.mpr ⟨X.env, List.mem_cons_self, by rw [hf, z]⟩)
    have nF : a ∉ X.fs := fun hm => by
      obtain ⟨e, he, q⟩ := List.mem_filterMap.mp hm
      exact nfr (List.mem_filterMap.mpr ⟨e, List.mem_cons_of_mem _ he, q⟩)
    have S3 := J3.suite he3 hd3 na nL nF
    have LT : PySem.W.Looks (model X.prog X.w) h3 (typeOf (.ref a)) cls := fun A Q E s k q => wpAny_typeOf_ref (k _ _ he3) (by rw [hz3.1]; exact q)
    -- then clause by clause
    have go : ∀ {hds' : List ExceptHandler} {l' : List (Value × (Addr → Value → Option Addr → TS))}, HdsA X n hds' l' → wManyA X.K Wout D i l' cls d σ' H' →
        wpAny (model X.prog X.w) X.A (handleBy (.ref a) X.env hds') (SP X pins D) X.xe { s' with heap := h3 } := by
      intro hds' l' hk
      induction hk with
      | nil =>
        intro w
        refine wpAny_handleBy_nil ?_
        obtain ⟨k1, k2, k3, oe, vs, T, oT, ts', he, hz, hd, h1, hr⟩ := id fl3
        unfold PySem.passOn
        refine wpAny_bind (wpAny_field he hd h1 ?_)
        rw [if_neg (show ¬ ((Value.ref T == Value.none) = true) from by simp)]
        have fin : wpAny (model X.prog X.w) X.A (setFlight (.ref a) X.env.frame) (fun _ s4 => wpAny (model X.prog X.w) X.A (throw (.ref a) : Sem Flow) (SP X pins D) X.xe s4) X.xe { s' with heap := h3 } := by
          rw [hf]
          refine HandSPX.setFlight_upZ fl3 fun h4 hh4 up4 => wpAny_throw (tk _ _ ?_)
          exact ⟨a, B, sI, pins, σ', H', cls, d, rfl, J, nb, (up.trans up3).trans up4, .inr (.inr (by rw [hs]; exact hh4)), na, os, ag, w⟩
        first
          | exact wpAny_bind (wpAny_pure (wpAny_bind fin))
          | exact wpAny_bind fin
      | @cons x c ts b₀ suite np pos' hds2 l2 hc hsu r ih =>
        intro w
        obtain ⟨b, hb1, hyes, hno⟩ := w
        refine wpAny_handleBy_cons (codeAny_handlers_test ?_) (by intro q; cases q)
        have test : ∀ {Q : Value → Shared → Prop} {E : Value → Shared → Prop}, Q c { s' with heap := h3 } → wpAny (model X.prog X.w) (X.A.mark (some (.ref a))) (eval (.Name x np) X.env) Q E { s' with heap := h3 } := fun {Q E} q => by
          obtain ⟨hg, hdbg, hm | ⟨hm, hv, hnn⟩⟩ := hc
          · exact ld_glob (X := X.suite a ((a, oe3) :: (X.pn ++ pins))) S3 hg hm q hdbg
          · exact ld_blt (X := X.suite a ((a, oe3) :: (X.pn ++ pins))) S3 hg hm hv q hnn hdbg
        refine test ((PySem.W.exm_one (M := model X.prog X.w) (J3.kIn) LT hb1).here ?_)
        cases b with
        | true =>
          refine codeAny_handlers_suite_as ?_
          refine HandSPX.lands_againZ fl3 fun h4 fl4 up4 => ?_
          have J4 : Inv X pins σ' H' { s' with heap := h4 } := J.landed nb fl4.1 ((up.trans up3).trans up4) os ag
          obtain ⟨oe4, vs4, he4, hz4, hd4⟩ := fl4.there
          have S4 := J4.suite he4 hd4 na nL nF
          refine store_ok (X := X.suite a ((a, oe4) :: (X.pn ++ pins))) (v := .ref a) S4 hN hi hloc rfl (fun s5 S5 => ?_) (.inr hln)
          refine wpAny_mono ((hsu a oe4 cls d (X.pn ++ pins) hz4 ⟨_, hd4⟩).run [] s5 _ H' _ S5 (hyes rfl a na)) (fun f s6 hsp => ?_) (fun _ _ z => False.elim z)
          have end_ : ∀ {σ6 : St} {H6 : Hp} {Q : Shared → Prop}, Inv (X.suite a ((a, oe4) :: (X.pn ++ pins))) [] σ6 H6 s6 → (∀ s7, Inv X pins (σ6.set i none) H6 s7 → Q s7) →
              wpAny (model X.prog X.w) X.A (do bindName X.env n .none; unbindBehindTheSuite X.env n pos') (fun _ s7 => Q s7) X.xe s6 := fun {σ6 H6 Q} S6 hq => gone_ok (S6.unsuite ok) hN hi hln hq
          cases f with
          | next =>
            obtain ⟨σ6, H6, S6, q6⟩ := hsp
            exact end_ S6 fun s7 J7 => ⟨_, _, J7, q6⟩
          | brk =>
            obtain ⟨σ6, H6, S6, q6⟩ := hsp
            exact end_ S6 fun s7 J7 => ⟨_, _, J7, q6⟩
          | cont =>
            obtain ⟨σ6, H6, S6, q6⟩ := hsp
            exact end_ S6 fun s7 J7 => ⟨_, _, J7, q6⟩
          | ret u =>
            obtain ⟨v6, σ6, H6, S6, r6, q6⟩ := hsp
            exact end_ S6 fun s7 J7 => ⟨_, _, _, J7, r6, q6⟩
        | false =>
          show wpAny _ X.A (handleBy (.ref a) X.env hds2) _ _ _
          exact ih (hno rfl)
    exact go hh (w J.len)
  · cases f with
    | next =>
      obtain ⟨σ', H', J', q⟩ := hsp
      exact wpAny_execs_nil ⟨σ', H', J'.ofTry ok, q⟩
    | brk =>
      obtain ⟨σ', H', J', q⟩ := hsp
      exact ⟨σ', H', J'.ofTry ok, q⟩
    | cont =>
      obtain ⟨σ', H', J', q⟩ := hsp
      exact ⟨σ', H', J'.ofTry ok, q⟩
    | ret u =>
      obtain ⟨v, σ', H', J', r, q⟩ := hsp
      exact ⟨v, σ', H', J'.ofTry ok, r, q⟩
end
end L2
set_option Elab.async false
set_option linter.all false
set_option maxRecDepth 100000
set_option maxHeartbeats 2000000
namespace DL
open PySem L2 Evl RZ PySem.Spec PyProof.Rows
/-! ### 29. repr of data -/
def showOk (d : PyData) : Prop := pl 20 d = true ∧ d.showable = true ∧ d.shown.length ≤ sizeLine
def rReprD (K : PySem.W.Frag) : List V → Hp → VK → Prop := fun xs H Q => ∃ x d, xs = [x] ∧ Dp K H x d ∧ showOk d ∧ Q (.str d.shown) H
theorem bt_repr2 : bootBuiltins "repr" = some (.builtin "repr") := by decide +kernel
theorem call_reprD {X : Cx} (hg : X.A.guards = some []) (hu : X.A.units + 65 < cLine) : CallR X (.builtin "repr") (rReprD X.K) := by
  intro pins s σ H xs us Q I r h
  obtain ⟨x, d, rfl, hd, ⟨hp, hs, hz⟩, q⟩ := h
  obtain ⟨u, rfl, r1⟩ := vals1 r
  obtain ⟨as, rd⟩ := Dp.reads I d x u hd r1
  obtain ⟨c1, c2⟩ := pl_shaped0 20 d hp
  have hsm : d.hasDict = true → sysModules ∉ as := fun e => by
    rw [PyData.hasDict_of_canLay d c1] at e
    cases e
  have big : ∀ a, u = .ref a → wpAny (model X.prog X.w) X.A (call (.builtin "repr") [u]) (EP X pins σ Q) X.xe s := fun a e => by
    subst e
    exact PySem.repr_of_reads' rd hs hsm hg (by omega) (fun _ _ e => e) (fun h' u' tk hk => ⟨.str d.shown, H, I.un (t' := tk) (Un.kept hk) (I.hok.kept hk), ⟨u', rfl⟩, q⟩) hz
  cases d with
  | none =>
    cases hd
    cases (show u = Value.none from r1)
    exact PySem.P.repr_of_none ⟨.str _, H, I.tok _, ⟨_, rfl⟩, q⟩
  | bool b =>
    cases hd
    cases (show u = Value.bool b from r1)
    cases b
    · exact PySem.P.repr_of_bool ⟨.str _, H, I.tok _, ⟨_, rfl⟩, q⟩
    · exact PySem.P.repr_of_bool ⟨.str _, H, I.tok _, ⟨_, rfl⟩, q⟩
  | int i =>
    cases hd
    obtain ⟨t, e⟩ := (show ∃ t, u = Value.int i t from r1)
    cases e
    exact PySem.P.repr_of_int (by simpa [PyData.showable] using hs) ⟨.str _, H, I.tok _, ⟨_, rfl⟩, q⟩
  | str y =>
    cases hd
    obtain ⟨t, e⟩ := (show ∃ t, u = Value.str y t from r1)
    cases e
    exact PySem.P.repr_of_str ⟨.str _, H, I.tok _, ⟨_, rfl⟩, q⟩ hz
  | list ds =>
    cases hd with
    | lst h1 h2 =>
      exact big _ r1
  | tuple ds =>
    cases hd with
    | tup h1 h2 =>
      exact big _ r1
  | dict kvs => cases hp
section
variable {C : Cn} {s : S} {Φ : W → S → Prop} {te : TE}
theorem wpe_repr (h : wpe C te s fun w s1 => ∃ d, w = .d d ∧ showOk d ∧ Φ (.d (.str d.shown)) s1) : wpe C (tCB (rReprD C.K) (tCons te tNil)) s Φ :=
  wpe_cb (wpa_cons (h.imp fun w s1 ⟨d, e, ho, k⟩ => wpa_nil fun F H σ vs pd wk l ⟨G, ps, a⟩ Q q => by
    subst e
    obtain ⟨v, rfl⟩ := one_arg l
    have r : Rp C.K C.cl G v d := a.top
    exact ⟨v, d, rfl, Rp.dp (r.mono a.gh) (pl_plain 20 d ho.1), ho, q _ _ _ _ k ⟨G, ps, a.pop.push (w := .d (.str _)) (.str _)⟩⟩))
end
end DL
set_option Elab.async false
set_option linter.all false
set_option maxRecDepth 100000
set_option maxHeartbeats 4000000
/-! DLL: a lambda handed to a def: all but the maker's own table stays (the kit's rule tells of one table less) -/
namespace LamX
open PySem PySem.Spec PyProof.Rows L2
def ExtP (P : Addr) (H H1 : Hp) : Prop := ∀ b o, b ≠ P → H b = some o → H1 b = some o
section
variable {X : Cx} {pins : List (Addr × Obj)} {σ : L2.St} {H : Hp} {s : Shared}
theorem lam_make3 {T : List (Addr × Str)} {c P : Addr} {params : Arguments} {body : Expr} {scope : Scope} {pos : Pos} {E : Value → Shared → Prop} {Q : Value → Shared → Prop} (I : Inv X pins σ H s) (TB : TabB X.base X.mg c P) (hcode : X.env.code = .ref c)
    (hm : (P, X.env.qual ++ "<lambda>") ∈ T) (hu : ∀ p ∈ T, p.1 = P → p.2 = X.env.qual ++ "<lambda>") (hT : Tabs T H) (hdef : defaultsOf params X.env = ([], [])) (hfree : ∀ y ∈ scope.names, y.2 = .free → ∃ c, X.env.cells.lookup y.1 = some c)
    (h : ∀ (f c' : Addr) (pm ctv : Value) (H1 : Hp) (s' : Shared), Inv X pins σ H1 s' → ExtP P H H1 → Tabs T H1 →
      s'.heap.get? f = some (PySem.W.kla_obj "<lambda>" (X.env.qual ++ "<lambda>") params body scope (cloFrom X.env.cells scope.names []) pm c' ctv) → H1 f = none → f ∉ frs X.stack → H1 c' = some (CodeO c' (X.env.qual ++ "<lambda>")) → Q (.ref f) s') :
    wpAny (model X.prog X.w) X.A (eval (.Lambda params body scope pos) X.env) Q E s := by
  obtain ⟨ps, hP, ht, ha⟩ := hT _ hm
  refine PySem.W.kla_eval hdef ?_
  have bP : s.heap.BuiltinsAt X.mg P := TB.bm.keeps I.bk
  have hP' : s.heap.get? P = some { cls := .none, data := .fields ps } := I.hok P _ hP
  have nofr : ∀ f, s.heap.objs.size ≤ f → f ∉ frs X.stack := fun f hf z => by
    rcases List.mem_cons.mp (I.stkSub _ z) with e | e
    · have h1 := I.lt
      rw [← e] at h1
      exact Nat.lt_irrefl _ (Nat.lt_of_lt_of_le h1 hf)
    · exact I.nofs hf e
  cases hc : codeAmong pos ps.toList with
  | none =>
    refine PySem.W.kla_makeFunction (mg := X.mg) (c := c) (P := P) (ps := ps) (closure_ok hfree) I.ok.glob (I.mod.glob.keeps I.bk) hcode (TB.code.keeps I.bk) hP' ht hc TB.gP bP fun c' ctv h' tk hx hge hlt hrec htb => ?_
    obtain ⟨c2, oc, vs, t, e2, hoc, hd, hv⟩ := hrec
    cases e2
    have hsz : s.heap.objs.size ≤ h'.objs.size := Nat.le_trans hge (Nat.le_of_lt hlt)
    have nC : H c' = none := I.hok.fresh hge
    have I1 := inv_table (t' := tk) (more := #[rawInt pos.line, rawInt pos.col, .ref c']) (h' := h'.push (PySem.W.kla_obj "<lambda>" (X.env.qual ++ "<lambda>") params body scope (cloFrom X.env.cells scope.names []) ((X.mg "__name__").getD .none) c' ctv)) I hP
      (fun b o hb e => Heap.get?_push_of_some _ (hx b o hb e)) (Heap.get?_push_of_some _ htb) hge ⟨oc, vs, t, Heap.get?_push_of_some _ hoc, hd, hv⟩
    have hE : ExtP P H (upd (upd H P (.tbl (ps ++ #[rawInt pos.line, rawInt pos.col, .ref c']))) c' (CodeO c' (X.env.qual ++ "<lambda>"))) := fun b o n e => by
      rw [upd_ne (ne_of_none e nC), upd_ne n]
      exact e
    have hC : ∀ (c0 : Addr) (q : Str), H c0 = some (CodeO c0 q) → c0 ≠ P := fun c0 q e z => by
      rw [z, hP] at e
      exact codeO_ne ps (Option.some.inj e).symm
    have eL : (ps ++ #[rawInt pos.line, rawInt pos.col, .ref c']).toList = ps.toList ++ [rawInt pos.line, rawInt pos.col, .ref c'] := by simp
    refine h h'.objs.size c' ((X.mg "__name__").getD .none) ctv _ _ I1 hE (fun p hp => ?_) (Heap.get?_push_size _ rfl) ?_ (nofr _ hsz) upd_same
    · obtain ⟨ps', a1, a2, a3⟩ := hT p hp
      by_cases hb : p.1 = P
      · have eps : ps' = ps := by
          rw [hb, hP] at a1
          cases a1
          rfl
        subst eps
        rw [hu p hp hb] at a3
        rw [hu p hp hb, hb]
        refine ⟨_, by rw [upd_ne (ne_of_none hP nC), upd_same], by rw [eL]; exact PySem.TriplesOk_snoc _ _ _ _ ht, fun p' cv hcv => ?_⟩
        rw [eL] at hcv
        rcases among_app _ ht hcv with z | z
        · obtain ⟨c0, e1, e2⟩ := a3 p' cv z
          exact ⟨c0, e1, hE _ _ (hC _ _ e2) e2⟩
        · exact ⟨c', z, upd_same⟩
      · refine ⟨ps', by rw [upd_ne (ne_of_none a1 nC), upd_ne hb]; exact a1, a2, fun p' cv hcv => ?_⟩
        obtain ⟨c0, e1, e2⟩ := a3 p' cv hcv
        exact ⟨c0, e1, hE _ _ (hC _ _ e2) e2⟩
    · have n1 : h'.objs.size ≠ c' := Nat.ne_of_gt hlt
      have n2 : h'.objs.size ≠ P := Nat.ne_of_gt (Nat.lt_of_lt_of_le (Heap.lt_size hP') hsz)
      rw [upd_ne n1, upd_ne n2]
      exact I.hok.fresh hsz
  | some cv =>
    obtain ⟨c', e, hco⟩ := ha pos cv hc
    subst e
    refine PySem.W.kla_makeFunctionHit (mg := X.mg) (c := c) (P := P) (ps := ps) (closure_ok hfree) I.ok.glob (I.mod.glob.keeps I.bk) hcode (TB.code.keeps I.bk) hP' ht hc bP fun ctv h' tk hx hsz => ?_
    have I1 : Inv X pins σ H { s with heap := h'.push (PySem.W.kla_obj "<lambda>" (X.env.qual ++ "<lambda>") params body scope (cloFrom X.env.cells scope.names []) ((X.mg "__name__").getD .none) c' ctv), toks := tk } := I.kept fun b o e => Heap.get?_push_of_some _ (hx b o e)
    exact h h'.objs.size c' ((X.mg "__name__").getD .none) ctv H _ I1 (fun b o _ e => e) hT (Heap.get?_push_size _ rfl) (I.hok.fresh hsz) (nofr _ hsz) hco
end
def tLam3 (P : Addr) (T : List (Addr × Str)) (TT : (XK → Hp → VK → Prop) → Hp → VK → Prop) (t : XK → TE) : TE := fun σ H Q => Tabs T H ∧ ∀ H1, ExtP P H H1 → Tabs T H1 → TT (fun E H' Q' => t E σ H' Q') H1 Q
section
variable {X : Cx}
/-- x(lambda: body) -/
theorem pe_lamcall3 {T : List (Addr × Str)} {TT : (XK → Hp → VK → Prop) → Hp → VK → Prop} {x a : Str} {g c P : Addr} {k : Nat} {pg : Arguments} {bg : List Stmt} {sg : Scope} {dV kV doc pm cdv ct oc : Value} {an od : Option Addr} {osl : Array (Option Value)} {Ng : List Str}
    {params : Arguments} {body : Expr} {scope : Scope} {t : XK → TE} {p lpos pos : Pos} (hg : Gl X x) (hm : X.mg x = some (.ref g)) (hk : PySem.W.keepIn X.K (.ref g) = true)
    (lk : X.K.lookup g = some ⟨oc, od, .func (PySem.W.fnOf x x pg bg sg dV kV doc pm an cdv ct), osl⟩) (hcg : PySem.W.codeIn X.K cdv x = true) (hb : L2.Binds X.K (PySem.W.fnOf x x pg bg sg dV kV doc pm an cdv ct) [a] []) (Sg : FnScope Ng [a] sg) (hNg : Ng[0]? = some a) (hva : Vis sg a)
    (hG : GivesTo X Ng x sg g cdv bg a (X.env.qual ++ "<lambda>") TT)
    (TB : TabB X.base X.mg c P) (hcode : X.env.code = .ref c) (hmT : (P, X.env.qual ++ "<lambda>") ∈ T) (hu : ∀ p ∈ T, p.1 = P → p.2 = X.env.qual ++ "<lambda>") (hr : Room (k + 2) X.A) (L : LamS X.env.scope scope) (hdef : defaultsOf params X.env = ([], []))
    (hbind : ∀ (q : Str) (cl : List (Str × Addr)) (pm cv ctv : Value), bindArgs (PySem.W.kla_fn "<lambda>" q params body scope cl pm cv ctv) ⟨[], []⟩ = pure [])
    (hbody : ∀ (A : Around) (outer : List Env) (s : Shared) (H : Hp) (E : XK) (f c' : Addr), Room k (A.deeper (lamEnv X scope s.heap.objs.size f c')) → PE (lamCx X A outer s H E scope f c') body (t E))
    (hdb : (x == ("__debug__" : Str)) = false := by decide) (hd : (a == ("__debug__" : Str)) = false := by decide) (hcd : (a == ("__classdict__" : Str)) = false := by decide) :
    PE X (.Call (.Name x p) [.Lambda params body scope lpos] [] pos) (tLam3 P T TT t) := by
  refine ⟨fun pins s σ H Q I h => ?_⟩
  obtain ⟨hT, h⟩ := h
  refine wpAny_Call_Name_kw (ld_glob I hg hm ?_ hdb)
  refine PySem.W.callWith_K (h₀ := X.base) I.ok.mod.kin hk ?_ (by rfl) (by rfl)
  show wpAny _ _ (spliced ((false, eval (.Lambda params body scope lpos) X.env) :: backTo pos (starEach [] X.env))) _ _ s
  refine Calls.spliced_cons (lam_make3 I TB hcode hmT hu hT hdef (L.has I.ok) fun f c' pm' ctv H1 s' I1 eN T1 hf hfn hfr hco => ?_)
  refine Calls.spliced_nil ⟨I1.kIn, ?_⟩
  have rc : codeAny (model X.prog X.w) X.A (.call (.ref g) ⟨[.ref f], []⟩) (CR C8.CX0 X.stack X.prog X.w H1 s' Q C8.E0) s' := by
    refine run_ofS (N := Ng) (ps := [a]) (us := [.ref f]) (vs := [.ref f]) lk hcg Sg hr I1.env0 (hb s' [.ref f] I1.kIn rfl) (.cons rfl .nil) rfl fun hr' => ?_
    obtain ⟨t', ht', hq'⟩ := hG f c' s' H1 Q (fun E H' Q' => t E σ H' Q') (fun W pn xe E p1 p2 tk hW => pe_act (i := 0) I1 L hf hfn hfr (hbind _ _ _ _ _) tk hW hr' (fun A outer s H hr2 => hbody A outer s H E f c' hr2) hNg hva hd hcd) hco (h H1 eN T1)
    exact ⟨t', ht'.nox, hq'⟩
  refine wpAny_call (codeAny_mono rc fun r s2 hq => ?_)
  cases r with
  | error e => exact (show False from hq).elim
  | ok fl =>
    cases fl with
    | ret u => exact I1.after hq
    | next => exact False.elim hq
    | brk => exact False.elim hq
    | cont => exact False.elim hq
end
end LamX
set_option Elab.async false
set_option linter.all false
set_option maxRecDepth 100000
set_option maxHeartbeats 2000000
namespace DL
open PySem L2 Evl RZ
/-! ### 30. what a law hears of a call: several clauses, each tells a tuple -/
inductive Pt where
  | f (x : Str)
  | r (x : Str)
def Pt.nm : Pt → Str
  | .f x => x
  | .r x => x
structure HS where
  cn : Str
  addr : Addr
  tag : Str
  parts : List Pt
/-- the reading of a clause's tuple -/
def ptE (K : PySem.W.Frag) (C : Addr) (a : Addr) (cls : Value) (d : Option Addr) : Pt → TE
  | .f x => tXf a cls d C x (tVar 1)
  | .r x => tCB (rReprD K) (tCons (tXf a cls d C x (tVar 1)) tNil)
def ptsA (K : PySem.W.Frag) (C : Addr) (a : Addr) (cls : Value) (d : Option Addr) : List Pt → TA
  | [] => tNil
  | p :: r => tCons (ptE K C a cls d p) (ptsA K C a cls d r)
def tsH (K : PySem.W.Frag) (h : HS) (a : Addr) (cls : Value) (d : Option Addr) : TS := tRet (tTup (tCons (tC (.str h.tag)) (ptsA K h.addr a cls d h.parts)))
def hsL (K : PySem.W.Frag) (hs : List HS) : List (Value × (Addr → Value → Option Addr → TS)) := hs.map fun h => (.ref h.addr, tsH K h)
def TTh (K : PySem.W.Frag) (hs : List HS) : (XK → Hp → VK → Prop) → Hp → VK → Prop := fun tl H Q =>
  tl (fun cls d H' => ∀ σ' : L2.St, σ'.length = 2 → wManyA K (fun _ _ _ _ => False) { nx := fun _ H' => Q .non H', rt := Q } 1 (hsL K hs) cls d σ' H') H (fun v H' => ([V.str "ok", v] : List V).length ≤ sizeLine ∧ ∀ p, H' p = none → Q (.ref p) (upd H' p (.tup [.str "ok", v])))
/-- what is told of an error -/
def ptD (fl : List (Str × PyData)) : Pt → PyData
  | .f x => (fl.lookup x).getD .none
  | .r x => .str (((fl.lookup x).getD .none).shown)
def ptOk (fl : List (Str × PyData)) : Pt → Prop
  | .f x => (fl.lookup x).isSome = true
  | .r x => ∃ d, fl.lookup x = some d ∧ showOk d
def heardOk (hs : List HS) (er : Er) (Ψ : PyData → Prop) : Prop := ∃ (h : HS) (fl : List (Str × PyData)), hs.find? (fun h => decide (h.cn = er.c)) = some h ∧ er.fs = fD fl ∧ (∀ p ∈ h.parts, ptOk fl p) ∧ Ψ (.tuple (.str h.tag :: h.parts.map (ptD fl)))
structure HsC (K : PySem.W.Frag) (cl : Str → Option Addr) (hs : List HS) : Prop where
  cl : ∀ h ∈ hs, cl h.cn = some h.addr
  ex : ∀ h ∈ hs, ∀ h' ∈ hs, PySem.W.exmOne K (.ref h.addr) (.ref h'.addr) = some (decide (h.cn = h'.cn))
  xf : ∀ h ∈ hs, XfC K h.addr
  no : ∀ h ∈ hs, ∀ p ∈ h.parts, PySem.W.findIn K (.ref h.addr) p.nm = some none
  sz : ∀ h ∈ hs, h.parts.length ≤ 100
theorem pts_run {K : PySem.W.Frag} {cl : Str → Option Addr} {Ca a dd : Addr} {G2 H2 : Hp} {fs : List (Str × V)} {fl : List (Str × PyData)} {σ : L2.St} (hσ : σ[1]? = some (some (.ref a))) (eg : Ex G2 H2) (hd : H2 dd = some (.xd fs)) (hr : RpF K cl G2 fs (fD fl)) :
    ∀ {ps : List Pt} {Q : List V → Hp → Prop}, (∀ p ∈ ps, ptOk fl p) → (∀ vs, vs.length = ps.length → RpL K cl G2 vs (ps.map (ptD fl)) → Q vs H2) → ptsA K Ca a (.ref Ca) (some dd) ps σ H2 Q
  | [], Q, _, q => q [] rfl .nil
  | p :: ps, Q, ho, q => by
    have h1 := ho p List.mem_cons_self
    have rest : ∀ (x : V), Rp K cl G2 x (ptD fl p) → ptsA K Ca a (.ref Ca) (some dd) ps σ H2 (fun xs H1 => Q (x :: xs) H1) := fun x rx =>
      pts_run hσ eg hd hr (fun p hp => ho p (List.mem_cons_of_mem _ hp)) fun vs hl rl => q (x :: vs) (by rw [List.length_cons, List.length_cons, hl]) (.cons rx rl)
    cases p with
    | f x =>
      obtain ⟨d, hfd⟩ := Option.isSome_iff_exists.mp h1
      obtain ⟨v, hv, rv⟩ := rpf_lookup hr hfd
      have e : ptD fl (.f x) = d := by
        show (fl.lookup x).getD .none = d
        rw [hfd]
        rfl
      exact ⟨_, hσ, rfl, rfl, dd, fs, v, rfl, hd, hv, rest v (by rw [e]; exact rv)⟩
    | r x =>
      obtain ⟨d, hfd, hs⟩ := h1
      obtain ⟨v, hv, rv⟩ := rpf_lookup hr hfd
      have e : ptD fl (.r x) = .str d.shown := by
        show PyData.str (((fl.lookup x).getD .none).shown) = _
        rw [hfd]
        rfl
      exact ⟨_, hσ, rfl, rfl, dd, fs, v, rfl, hd, hv, v, d, rfl, Rp.dp (rv.mono eg) (pl_plain 20 d hs.1), hs, rest (.str d.shown) (by rw [e]; exact .str _)⟩
/-- the clauses, from one on -/
theorem many_run {K : PySem.W.Frag} {cl : Str → Option Addr} {hs0 : List HS} (HC : HsC K cl hs0) {er : Er} {Ca dd : Addr} {G2 H2 : Hp} {fs : List (Str × V)} {h : HS} {fl : List (Str × PyData)} (hh : h ∈ hs0) (hcn : h.cn = er.c) (hCa : Ca = h.addr) (hpo : ∀ p ∈ h.parts, ptOk fl p) (eg : Ex G2 H2) (hd : H2 dd = some (.xd fs)) (hr : RpF K cl G2 fs (fD fl))
    {D : Ends} (hq : ∀ vs, RpL K cl G2 vs (h.parts.map (ptD fl)) → ∀ p, H2 p = none → D.rt (.ref p) (upd H2 p (.tup (.str h.tag :: vs)))) {σ : L2.St} (hσ : σ.length = 2) :
    ∀ {hs : List HS}, (∀ x ∈ hs, x ∈ hs0) → hs.find? (fun h => decide (h.cn = er.c)) = some h → wManyA K (fun _ _ _ _ => False) D 1 (hsL K hs) (.ref Ca) (some dd) σ H2
  | [], _, hf => by cases hf
  | x :: hs, hsub, hf => by
    have hx := hsub x List.mem_cons_self
    refine ⟨_, by rw [hCa]; exact HC.ex h hh x hx, fun hb a _ => ?_, fun hb => ?_⟩
    · have ecn : h.cn = x.cn := of_decide_eq_true hb
      have : h = x := by
        rw [List.find?_cons] at hf
        have e : decide (x.cn = er.c) = true := decide_eq_true (ecn.symm.trans hcn)
        rw [e] at hf
        exact (Option.some.inj hf).symm
      subst this
      have h1 : (σ.set 1 (some (V.ref a)))[1]? = some (some (.ref a)) := List.getElem?_set_self (by omega)
      rw [hCa]
      show ptsA K h.addr a (.ref h.addr) (some dd) h.parts (σ.set 1 (some (.ref a))) H2 _
      refine pts_run h1 eg hd hr hpo fun vs hl rl => ⟨?_, fun p hp => hq vs rl p hp⟩
      rw [List.length_cons, hl, sizeLine_eq]
      have := HC.sz h hh
      omega
    · have ncn : ¬ h.cn = x.cn := of_decide_eq_false hb
      rw [List.find?_cons] at hf
      have e : decide (x.cn = er.c) = false := decide_eq_false fun z => ncn (hcn.trans z.symm)
      rw [e] at hf
      exact many_run HC hh hcn hCa hpo eg hd hr hq hσ (fun y hy => hsub y (List.mem_cons_of_mem _ hy)) hf
section
variable {C : Cn} {s : S} {Φ : W → S → Prop} {Wd : Wf} {ta : TA} {T : List (Addr × Str)} {P : Addr} {q : Str} {hs : List HS}
theorem AtG.tables {F : Fr} {G : Hp} {ps : List Addr} {H H1 : Hp} {σ : L2.St} {pd : List (V × W)} {wk : List (Hp → Prop)} (hpk : C.pk = pkD T) (hP : (P, q) ∈ T) (a : AtG C F G ps H σ s pd wk) :
    LamX.Tabs T H ∧ ∀ H1, LamX.ExtP P H H1 → LamX.Tabs T H1 → AtG C F G ps H1 σ s pd wk := by
  have pk := a.pk
  rw [hpk] at pk
  obtain ⟨P0, L, hPL, hn⟩ := pk
  have pn := a.pn
  have hX : F.pn.X P := by
    rw [hn]
    exact .inr (.inr ⟨q, hP⟩)
  have pn2 : PenAt P0 L s.c H ∧ LamX.Tabs T H := by
    rw [hn] at pn
    exact pn
  obtain ⟨⟨pa, pd', pk', pf, cs, h1, h2, h3⟩, ht⟩ := pn2
  obtain ⟨tps, hT, _⟩ := ht _ hP
  refine ⟨ht, fun H1 e t1 => ?_⟩
  have x0 := a.x0 hX (F.xh _ hX)
  refine ⟨fun b o z => e b o (fun y => by rw [y, x0] at z; cases z) (a.gh b o z), a.g0, fun b o hb z => e b o (fun y => hb (by rw [y]; exact hX)) (a.h0 b o hb z), a.fr, a.len, a.env, a.psn, a.psl, fun k p ws g1 g2 => ?_, a.pend, a.wkm, ?_, fun p hp => ?_, a.pk⟩
  · obtain ⟨e1, e2, vs, e3, r⟩ := a.ms k p ws g1 g2
    exact ⟨e1, e2, vs, e _ _ (fun y => by rw [y, hT] at e3; cases e3) e3, r⟩
  · rw [hn]
    exact ⟨⟨pa, pd', pk', pf, cs, e _ _ (fun y => by rw [y, hT] at h1; cases h1) h1, e _ _ (fun y => by rw [y, hT] at h2; cases h2) h2, h3⟩, t1⟩
  · obtain ⟨e1, e2⟩ := a.psh p hp
    refine ⟨?_, e2⟩
    cases z : H p with
    | none => exact absurd z e1
    | some o =>
      rw [e p o (fun y => F.xh _ hX (by rw [← y]; exact e2)) z]
      exact fun z => nomatch z
/-- heard(lambda: f(..)) -/
theorem wpe_lam (hpk : C.pk = pkD T) (hP : (P, q) ∈ T) (HC : HsC C.K C.cl hs) (h : wpa C ta s fun ws s1 => ∃ ds : List PyData, ws = ds.map W.d ∧ Wd ds (fun d => Φ (.d (.tuple [.str "ok", d])) s1) fun er => heardOk hs er fun d => Φ (.d d) s1) :
    wpe C (LamX.tLam3 P T (TTh C.K hs) fun E => tCall (spP C.K C.cl Wd) [] E ta) s Φ := fun F H σ pd wk hx ⟨G, ps, a⟩ Q qq => by
  obtain ⟨ht, hgo⟩ := a.tables hpk hP (H1 := H)
  refine ⟨ht, fun H1 e t1 => ?_⟩
  refine h F H1 σ pd wk hx ⟨G, ps, hgo H1 e t1⟩ _ fun vs H2 ws s1 ⟨ds, ew, hw⟩ l ⟨G2, ps2, a2⟩ => ?_
  subst ew
  rw [List.append_nil]
  refine ⟨G2, ds, _, _, a2.gh, rpl_of (a2.args l), hw, fun d v G3 H3 f n r => ⟨(by show 2 ≤ sizeLine; decide), fun p hp => ?_⟩, fun er he Ca dx fs G3 H3 hc n hd hn hr σ' hσ' => ?_⟩
  · have n2 := nw_new (o := .tup [.str "ok", v]) n.gh hp
    exact qq _ _ _ s1 f ⟨_, ps2, (((a2.rest.step n).step n2).push (w := .d (.tuple [.str "ok", d])) (.tup (st_of upd_same) (.cons (.str _) (.cons (r.mono n2.gg) .nil))))⟩
  · obtain ⟨hh, fl, hf, efs, hpo, f⟩ := he
    have hmem := List.mem_of_find?_eq_some hf
    have hcn : hh.cn = er.c := by
      have := List.find?_some hf
      exact of_decide_eq_true this
    have hCa : Ca = hh.addr := by
      have := HC.cl hh hmem
      rw [hcn, hc] at this
      exact Option.some.inj this
    rw [efs] at hr
    refine many_run HC hmem hcn hCa hpo n.gh hd hr (fun us ru p hp => ?_) hσ' (fun x hx => hx) hf
    have n2 := nw_new (o := .tup (.str hh.tag :: us)) n.gh hp
    exact qq _ _ _ s1 f ⟨_, ps2, (((a2.rest.step n).step n2).push (w := .d (.tuple (.str hh.tag :: hh.parts.map (ptD fl)))) (.tup (st_of upd_same) (.cons (.str _) (ru.mono n2.gg))))⟩
end
end DL
set_option Elab.async false
set_option linter.all false
set_option maxRecDepth 100000
set_option maxHeartbeats 2000000
namespace DL
open PySem L2 Evl RZ PySem.Spec PyProof.Rows
/-! ### 31. defs that are entered while no repr runs -/
structure FnOkG (P : Program) (w : World) (K : PySem.W.Frag) (mg : Str → Option Value) (base : Heap) (k : Nat) (f : Addr) (fd : FuncData) (ps : List Str) (sp : Sp) : Prop where
  len : ∀ vs H Q E, sp vs H Q E → vs.length = ps.length
  run : ∀ (A : Around) (outer : List Env) (s : Shared) (H : Hp) (args : Args) (us : List Value) (vs : List V) (Q : VK) (E : XK), A.guards = some [] → Room k A → Env0 P w K mg base A outer s H → BindsTo s fd args (ps.zip us) → Vals vs us → sp vs H Q E →
    codeAny (model P w) A (.call (.ref f) args) (CR CX0 outer P w H s Q E) s
theorem Fun.okG {P : Program} {w : World} {K : PySem.W.Frag} {mg : Str → Option Value} {base : Heap} {x qual : Str} {st : Stmt} {f : Addr} {fd : FuncData} {N ps : List Str} {k : Nat} {sp : Sp} (F : Fun K x qual st f fd) (S : FnScope N ps (defScope st)) (len : ∀ vs H Q E, sp vs H Q E → vs.length = ps.length)
    (hbody : ∀ (cdv : Value) (A : Around) (outer : List Env) (s : Shared) (H : Hp) (vs : List V) (Q : VK) (E : XK), PySem.W.codeIn K cdv qual = true → fd.code = cdv → A.guards = some [] → Room k (A.deeper (envOfC qual (defScope st) s.heap.objs.size f cdv)) → sp vs H Q E →
      ∃ t, PSs (cxOf CX0 P w K mg base N qual (defScope st) f cdv A outer s H E).nox (defBody st) t ∧ t { nx := fun _ H' => Q .non H', rt := Q } (L2.start N vs) H) : FnOkG P w K mg base (k + 1) f fd ps sp := by
  obtain ⟨oc, od, kV, doc, pm, an, cdv, ct, osl, rfl, lk, hcd⟩ := F.ex
  refine ⟨len, fun A outer s H args us vs Q E hg hr e0 hb r hsp => ?_⟩
  refine LamX.run_ofS (N := N) lk hcd S hr e0 hb r (len _ _ _ _ hsp) fun hr' => ?_
  obtain ⟨t, h, q⟩ := hbody cdv A outer s H vs Q E hcd rfl hg hr' hsp
  exact ⟨t, h.nox, q⟩
def ClG (P : Program) (w : World) (K : PySem.W.Frag) (mg : Str → Option Value) (base : Heap) (k : Nat) (x : Str) (ps : List Str) (sp : Sp) : Prop :=
  ∃ (f : Addr) (fd : FuncData), FnOkG P w K mg base k f fd ps sp ∧ mg x = some (.ref f) ∧ PySem.W.keepIn K (.ref f) = true ∧ Binds K fd ps []
theorem pe_clG {X : Cx} {j k : Nat} {x : Str} {ps : List Str} {sp : Sp} {E : XK} {e : Expr} {es : List Expr} {t : TA} {p pos : Pos} (hgd : X.A.guards = some []) (c : ClG X.prog X.w X.K X.mg X.base k x ps sp) (hr : Room j X.A) (hk : k ≤ j) (hg : Gl X x) (ha : PA X (e :: es) t)
    (hdb : (x == ("__debug__" : Str)) = false := by decide) (he : starEach (e :: es) X.env = (false, eval e X.env) :: starEach es X.env := by rfl) (hpl : (backTo pos (starEach es X.env)).any (·.1) = false := by rfl) :
    PE X (.Call (.Name x p) (e :: es) [] pos) (tCall sp [] E t) := by
  obtain ⟨f, fd, F, hm, hkp, hb⟩ := c
  refine ⟨fun pins s σ H Q I h => ?_⟩
  refine wpAny_Call_Name_kw (ld_glob I hg hm ?_ hdb)
  refine PySem.W.callWith_K (h₀ := X.base) I.ok.mod.kin hkp (thn (ha.run pos pins s σ H _ I h) fun us s1 ⟨vs, H1, I1, r, q⟩ => ⟨I1.kIn, ?_⟩) he hpl
  have q : sp (vs ++ []) H1 Q E := q
  rw [List.append_nil] at q
  have hl : us.length = ps.length := by rw [← r.length]; exact F.len _ _ _ _ q
  show wpAny _ _ (call (.ref f) ([] ++ us)) _ _ _
  rw [List.nil_append]
  have rc := F.run X.A X.stack s1 H1 ⟨us, []⟩ us vs Q E hgd (hr.mono hk) I1.env0 (by
    have := hb s1 us I1.kIn (by rw [List.append_nil]; exact hl)
    rw [List.append_nil] at this
    exact this) r q
  refine wpAny_call (codeAny_mono rc fun r s2 hq => ?_)
  cases r with
  | error e => exact (show False from hq).elim
  | ok fl =>
    cases fl with
    | ret u => exact I1.after hq
    | next => exact False.elim hq
    | brk => exact False.elim hq
    | cont => exact False.elim hq
end DL
set_option Elab.async false
set_option linter.all false
set_option maxRecDepth 100000
set_option maxHeartbeats 2000000
namespace DL
open PySem L2 Evl RZ PySem.Spec PyProof.Rows LamX
/-! ### 32. the def that tells of what it calls -/
theorem many_rt {K : PySem.W.Frag} {W : WX} {D D' : Ends} (hr : D.rt = D'.rt) {cls : Value} {d : Option Addr} {σ : L2.St} {H : Hp} : ∀ {hs : List HS}, wManyA K W D 1 (hsL K hs) cls d σ H → wManyA K W D' 1 (hsL K hs) cls d σ H
  | [], h => h
  | x :: hs, ⟨b, e, h1, h2⟩ => by
    refine ⟨b, e, fun hb a ha => ?_, fun hb => many_rt hr (h2 hb)⟩
    have := h1 hb a ha
    show tsH K x a cls d (goneD 1 D') _ H
    unfold tsH tRet at this ⊢
    rw [show (goneD 1 D').rt = (goneD 1 D).rt from hr.symm]
    exact this
section
variable {X : Cx}
theorem heard_gives {Ng : List Str} {x a en q : Str} {sg : Scope} {g : Addr} {cdg : Value} {hs : List HS} {h₀ : ExceptHandler} {hds : List ExceptHandler} {j k j2 : Nat} {p1 p2 p3 p4 p5 p6 p7 p8 : Pos}
    (hN : Ng.length = 2) (hnd : Ng.Nodup) (hi : Ng[1]? = some en) (hln : sg.names.lookup en = some .local) (h0 : ∀ f : Addr, (L2.start Ng [V.ref f])[0]? = some (some (V.ref f)))
    (hH : ∀ (s : Shared) (H : Hp), HdsA (cxOf C8.CX0 X.prog X.w X.K X.mg X.base Ng x sg g cdg X.A X.stack s H C8.E0).nox en (h₀ :: hds) (hsL X.K hs)) :
    GivesTo X Ng x sg g cdg [.Try [.Return (some (.Tuple [.Constant (.str "ok") j p3, .Call (.Name a p1) [] [] p2] k p4)) p5] (h₀ :: hds) [] [] p6, .Return (some (.Constant .none j2 p7)) p8] a q (TTh X.K hs) := by
  intro f c' s H Q tl act hc h
  refine ⟨_, pss_cons (ps_try_manyAs (X := (cxOf C8.CX0 X.prog X.w X.K X.mg X.base Ng x sg g cdg X.A X.stack s H C8.E0).nox) (n := en) (i := 1) (l := hsL X.K hs)
      (tb := fun W D σ H => ∃ Ech : XK, (∀ cls d σ' H', Ech cls d H' → W cls d σ' H') ∧ σ[0]? = some (some (.ref f)) ∧ H c' = some (CodeO c' q) ∧ tl Ech H (fun v H' => ([V.str "ok", v] : List V).length ≤ sizeLine ∧ ∀ p, H' p = none → D.rt (.ref p) (upd H' p (.tup [.str "ok", v]))))
      rfl rfl hnd hi hln L2.takes0 (fun W pn xe tk _ => ?_) (hH s H)) (pss_one (ps_ret pe_non)), ?_⟩
  · refine ⟨fun pins s' σ H' D I h' => ?_⟩
    obtain ⟨Ech, hW, h1, h2, h3⟩ := h'
    have hp := act W pn xe Ech p1 p2 tk hW
    have hq := pss_one (ps_ret (pos := p5) (pe_tup (x1 := k) (pos := p4) (pa_cons (pe_str (x := "ok") (j := j) (pos := p3)) (pa_cons hp pa_nil))))
    exact hq.run pins s' σ H' D I ⟨h1, h2, h3⟩
  · refine ⟨fun cls d H' => ∀ σ' : L2.St, σ'.length = 2 → wManyA X.K (fun _ _ _ _ => False) { nx := fun _ H' => Q .non H', rt := Q } 1 (hsL X.K hs) cls d σ' H', fun cls d σ' H' hw hl => many_rt rfl (hw σ' (hl.trans hN)), h0 f, hc, h⟩
end
end DL
set_option Elab.async false
set_option linter.all false
set_option maxRecDepth 100000
set_option maxHeartbeats 2000000
namespace DL
open PySem L2 Evl RZ PySem.Spec PyProof.Rows LamX
/-! ### 33. heard(lambda: ..) -/
def ClH (K : PySem.W.Frag) (mg : Str → Option Value) (x : Str) (st : Stmt) (a : Str) : Prop := ∃ (f : Addr) (fd : FuncData), Fun K x x st f fd ∧ mg x = some (.ref f) ∧ PySem.W.keepIn K (.ref f) = true ∧ Binds K fd [a] []
/-- where the lambdas' code objects lie -/
structure TabX (X : Cx) (T : List (Addr × Str)) (P : Addr) : Prop where
  tb : ∃ c, LamX.TabB X.base X.mg c P ∧ X.env.code = .ref c
  m : (P, X.env.qual ++ "<lambda>") ∈ T
  u : ∀ p ∈ T, p.1 = P → p.2 = X.env.qual ++ "<lambda>"
section
variable {X : Cx}
theorem pe_heard {T : List (Addr × Str)} {P : Addr} {hs : List HS} {x a en : Str} {st : Stmt} {Ng : List Str} {k : Nat} {params : Arguments} {body : Expr} {scope : Scope} {t : XK → TE} {p lpos pos : Pos} {h₀ : ExceptHandler} {hds : List ExceptHandler} {j k' j2 : Nat} {p1 p2 p3 p4 p5 p6 p7 p8 : Pos}
    (c : ClH X.K X.mg x st a) (Sg : FnScope Ng [a] (defScope st)) (hNg : Ng[0]? = some a) (hva : Vis (defScope st) a) (hN : Ng.length = 2) (hnd : Ng.Nodup) (hi : Ng[1]? = some en) (hln : (defScope st).names.lookup en = some .local) (h0 : ∀ f : Addr, (L2.start Ng [V.ref f])[0]? = some (some (V.ref f)))
    (hbd : defBody st = [.Try [.Return (some (.Tuple [.Constant (.str "ok") j p3, .Call (.Name a p1) [] [] p2] k' p4)) p5] (h₀ :: hds) [] [] p6, .Return (some (.Constant .none j2 p7)) p8])
    (hH : ∀ (g : Addr) (cdg : Value) (s : Shared) (H : Hp), HdsA (cxOf C8.CX0 X.prog X.w X.K X.mg X.base Ng x (defScope st) g cdg X.A X.stack s H C8.E0).nox en (h₀ :: hds) (hsL X.K hs))
    (hg : Gl X x) (TX : TabX X T P) (hr : Room (k + 2) X.A) (L : LamS X.env.scope scope) (hdef : defaultsOf params X.env = ([], []))
    (hbind : ∀ (q : Str) (cl : List (Str × Addr)) (pm cv ctv : Value), bindArgs (PySem.W.kla_fn "<lambda>" q params body scope cl pm cv ctv) ⟨[], []⟩ = pure [])
    (hbody : ∀ (A : Around) (outer : List Env) (s : Shared) (H : Hp) (E : XK) (f c' : Addr), Room k (A.deeper (lamEnv X scope s.heap.objs.size f c')) → PE (lamCx X A outer s H E scope f c') body (t E))
    (hdb : (x == ("__debug__" : Str)) = false := by decide) (hd : (a == ("__debug__" : Str)) = false := by decide) (hcd : (a == ("__classdict__" : Str)) = false := by decide) :
    PE X (.Call (.Name x p) [.Lambda params body scope lpos] [] pos) (tLam3 P T (TTh X.K hs) t) := by
  obtain ⟨g, fd, F, hm, hk, hb⟩ := c
  obtain ⟨oc, od, kV, doc, pm, an, cdv, ct, osl, rfl, lk, hcd2⟩ := F.ex
  obtain ⟨cc, tb, hcode⟩ := TX.tb
  refine pe_lamcall3 hg hm hk lk hcd2 hb Sg hNg hva ?_ tb hcode TX.m TX.u hr L hdef hbind hbody hdb hd hcd
  rw [hbd]
  exact heard_gives hN hnd hi hln h0 (hH g cdv)
end
end DL
namespace DL
open PySem L2 Evl RZ
/-- what the clauses need of the world -/
structure HxC (K : PySem.W.Frag) (mg : Str → Option Value) (hs : List HS) : Prop where
  mg : ∀ h ∈ hs, mg h.cn = some (.ref h.addr)
  xf : ∀ h ∈ hs, XfC K h.addr
  no : ∀ h ∈ hs, ∀ p ∈ h.parts, PySem.W.findIn K (.ref h.addr) p.nm = some none
def tryHs (st : Stmt) : List ExceptHandler := match defBody st with
  | .Try _ hs _ _ _ :: _ => hs
  | _ => []
theorem hu65 {k : Nat} {A : Around} (hr : Room k A) : A.units + 65 < cLine := by
  have := hr.un
  omega
theorem hu65d {k : Nat} {A : Around} (hr : Room (k + 1) A) : A.units + 3 + 65 < cLine := by
  have := hr.un
  omega
end DL
set_option Elab.async false
set_option linter.all false
set_option maxRecDepth 100000
set_option maxHeartbeats 2000000
namespace DL
open PySem L2 Evl RZ
/-! ### 34. a law that opens by its pen -/
theorem tabs_ex {T : List (Addr × Str)} {H H' : Hp} (h : LamX.Tabs T H) (e : ∀ b o, H b = some o → H' b = some o) : LamX.Tabs T H' := fun p hp => by
  obtain ⟨ps, e1, e2, e3⟩ := h p hp
  refine ⟨ps, e _ _ e1, e2, fun pos cv hc => ?_⟩
  obtain ⟨c0, q1, q2⟩ := e3 pos cv hc
  exact ⟨c0, q1, e _ _ q2⟩
/-- what a law promises: T, the tables of code objects -/
def spLaw (K : PySem.W.Frag) (T : List (Addr × Str)) : Sp := fun vs H Q _ => ∃ (a : Addr) (ns : List Int), vs = [.ref a] ∧ SqL K H a (ns.map V.int) ∧ LamX.Tabs T H ∧ ∀ H', Q (.bl true) H'
theorem law_ok {K : PySem.W.Frag} {cl : Str → Option Addr} {T : List (Addr × Str)} {N : List Str} {t : TS} {vs : List V} {H : Hp} {Q : VK} {E E' : XK} {m : Nat} (hN : N.length = m + 2) (hsp : spLaw K T vs H Q E)
    (h : wps { K := K, cl := cl, EX := E', Psi := fun _ => False, pk := pkD T } t ⟨.no :: .pen :: List.replicate m .no, [], 0⟩ { nx := fun _ => False, rt := fun w _ => w = .d (.bool true) }) :
    tSeq (tAsg (tCall (spPen K) [] E0 (tCons (tVar 0) tNil)) (gName 1)) t { nx := fun _ H' => Q .non H', rt := Q } (L2.start N vs) H := by
  obtain ⟨a, ns, rfl, hs, ht, hq⟩ := hsp
  have est : L2.start N [V.ref a] = some (.ref a) :: List.replicate (m + 1) none := by
    show ([V.ref a].map some ++ List.replicate (N.length - 1) none) = _
    rw [hN]
    rfl
  rw [est]
  refine ⟨.ref a, rfl, a, ns, rfl, hs, fun P L H' hPL h1 h2 hp e => ?_⟩
  have ht' : LamX.Tabs T H' := tabs_ex ht e
  have hpn : (stdPn P L T).pen 0 (fun _ => none) H' := ⟨hp, ht'⟩
  refine h ⟨fun _ => none, H', stdPn P L T, fun _ _ => rfl, fun b hb => (stdPn P L T).pe 0 _ H' b hpn hb⟩ H' _ [] (fun er he => he.elim)
    ⟨fun _ => none, [], (fun _ _ z => nomatch z), Ex.refl _, fun _ _ _ e => e, fun _ _ g => g, ?_, fun i w hi hw => ?_, List.nodup_nil, rfl, fun k p ws h1 _ => by simp at h1, fun q hq => by simp at hq, fun q hq => by simp at hq, hpn, fun p hp => by simp at hp, ⟨P, L, hPL, rfl⟩⟩ _
    ⟨fun σ2 H2 s2 f _ => f.elim, fun v H2 σ2 w s2 ew ⟨G2, ps2, a2⟩ => ?_, fun _ _ _ z => z.elim, fun _ _ _ z => z.elim⟩
  · simp
  · match i, hi with
    | 0, hi => cases hi; exact (hw rfl).elim
    | 1, hi => cases hi; exact ⟨.ref P, rfl, rfl⟩
    | i + 2, hi =>
      have : w = .no := List.eq_of_mem_replicate (List.mem_of_getElem? (show (List.replicate m W.no)[i]? = some w from hi))
      exact (hw this).elim
  · have ew : w = .d (.bool true) := ew
    subst ew
    have := a2.top
    cases (show Rp K cl G2 v (.bool true) from this)
    exact hq H2
end DL
set_option Elab.async false
set_option linter.all false
set_option maxRecDepth 100000
set_option maxHeartbeats 2000000
namespace DL
open PySem L2 Evl RZ PySem.Spec PyProof.Rows LamX
/-! ### 35. the end of a law that is entered while no repr runs; one table of code objects, at Pt -/
section
variable {P : Program} {w : World} {K : PySem.W.Frag} {mg mb : Str → Option Value} {k : Nat} {fa a c Pt : Addr} {fd : FuncData} {x : Str} {sp : Sp} {s₁ : Shared} {vs : List Value} {ns : List Int}
/-- what is tracked as the law begins: the table, and the script unless K holds it -/
def heap1 (K : PySem.W.Frag) (Pt a : Addr) (vs : List Value) (ns : List Int) : Hp := fun b =>
  if b = Pt then some (.tbl #[]) else if b = a ∧ K.lookup a = none then some (.frz { cls := .type "list", data := .seq vs.toArray } (.lst (ns.map V.int))) else none
theorem heap1_cases (b : Addr) : (b = Pt ∧ heap1 K Pt a vs ns b = some (.tbl #[])) ∨ (b ≠ Pt ∧ b = a ∧ K.lookup a = none ∧ heap1 K Pt a vs ns b = some (.frz { cls := .type "list", data := .seq vs.toArray } (.lst (ns.map V.int)))) ∨ (b ≠ Pt ∧ heap1 K Pt a vs ns b = none) := by
  unfold heap1
  by_cases h1 : b = Pt
  · exact .inl ⟨h1, if_pos h1⟩
  · by_cases h2 : b = a ∧ K.lookup a = none
    · exact .inr (.inl ⟨h1, h2.1, h2.2, by rw [if_neg h1, if_pos h2]⟩)
    · exact .inr (.inr ⟨h1, by rw [if_neg h1, if_neg h2]⟩)
theorem law_callG (KX : K.In s₁.heap) (hns : s₁.heap.Ns mainGlobals mg) (hb : s₁.heap.Ns builtinsNs mb) (hbb : ∀ x : Str, x ≠ "__name__" → mb x = bootBuiltins x) (hlim : s₁.heap.NoLimit) (hg : s₁.gens = #[])
    (hT : s₁.heap.get? Pt = some { cls := .none, data := .fields #[] }) (nT : K.lookup Pt = none) (C : PySem.W.CodeHd s₁.heap c Pt)
    (hbm : ∃ (bm : Addr) (ob : Obj), mg "__builtins__" = some (.ref bm) ∧ bm ≠ builtinsNs ∧ s₁.heap.get? bm = some ob ∧ ob.cls = .type "module" ∧ ob.dict = some builtinsNs ∧ ob.data = .plain)
    (ha : s₁.heap.get? a = some { cls := .type "list", data := .seq vs.toArray }) (hi : IntsAre vs ns) (hl : ns.length ≤ sizeLine) (hr : Room k callerA)
    (F : ∀ base : Heap, K.In base → base.Ns mainGlobals mg → TabB base mg c Pt → FnOkG P w K mg base k fa fd [x] sp) (hbind : ∀ (s : Shared) (u : Value), BindsTo s fd ⟨[u], []⟩ [(x, u)])
    (hsp : ∀ H : Hp, H Pt = some (.tbl #[]) → SqL K H a (ns.map V.int) → sp [.ref a] H (fun v _ => v = .bl true) fun _ _ _ => False) :
    codeAny (model P w) callerA (.call (.ref fa) ⟨[.ref a], []⟩) (fun r s' => r = .ok (.ret (.bool true)) ∧ OldK s₁.heap s'.heap ∧ s'.os = s₁.os ∧ AllBare s'.gens) s₁ := by
  have rv := vals_ints hi
  have lenV := hi.length
  have naP : a ≠ Pt := fun z => by
    rw [z, hT] at ha
    cases ha
  generalize hH : heap1 K Pt a vs ns = H
  have cs : ∀ b, _ := fun b => heap1_cases (K := K) (Pt := Pt) (a := a) (vs := vs) (ns := ns) b
  rw [hH] at cs
  have hP : H Pt = some (.tbl #[]) := by
    rcases cs Pt with ⟨_, z⟩ | ⟨n, _⟩ | ⟨n, _⟩
    · exact z
    · exact (n rfl).elim
    · exact (n rfl).elim
  -- a tracked thing is the table or the script
  have tr : ∀ {b : Addr} {o : Obj}, s₁.heap.get? b = some o → H b ≠ none → (b = Pt ∧ o.data = .fields #[]) ∨ (b = a ∧ K.lookup a = none ∧ o.data = .seq vs.toArray) := fun {b o} e n => by
    rcases cs b with ⟨z, _⟩ | ⟨_, z, z2, _⟩ | ⟨_, z⟩
    · rw [z, hT] at e
      cases e
      exact .inl ⟨z, rfl⟩
    · rw [z, ha] at e
      cases e
      exact .inr ⟨z, z2, rfl⟩
    · exact (n z).elim
  have free : ∀ {b : Addr} {o : Obj}, s₁.heap.get? b = some o → o.data ≠ .fields #[] → o.data ≠ .seq vs.toArray → H b = none := fun {b o} e n1 n2 => by
    cases q : H b with
    | none => rfl
    | some u =>
      rcases tr e (by rw [q]; simp) with ⟨_, z⟩ | ⟨_, _, z⟩
      · exact (n1 z).elim
      · exact (n2 z).elim
  have put : ∀ {b : Addr} {o : Obj}, s₁.heap.get? b = some o → o.data ≠ .fields #[] → o.data ≠ .seq vs.toArray → (hidT s₁.heap H).get? b = some o := fun e n1 n2 => hidT_get e (free e n1 n2)
  have nsK : ∀ {b : Addr} {m : Str → Option Value}, s₁.heap.Ns b m → (hidT s₁.heap H).Ns b m := fun {b m} ⟨o, es, ep, e, d, r⟩ => ⟨o, es, ep, put e (by rw [d]; exact fun z => nomatch z) (by rw [d]; exact fun z => nomatch z), d, r⟩
  have hKb : K.In (hidT s₁.heap H) := fun b o e => by
    refine hidT_get (KX b o e) ?_
    cases q : H b with
    | none => rfl
    | some u =>
      rcases tr (KX b o e) (by rw [q]; simp) with ⟨z, _⟩ | ⟨z, z2, _⟩
      · rw [z, nT] at e
        cases e
      · rw [z, z2] at e
        cases e
  have hM : L2.Mod K mg (hidT s₁.heap H) := by
    obtain ⟨mc, h1, h2⟩ := hlim
    exact ⟨hKb, nsK hns, ⟨mb, nsK hb, hbb⟩, mc, nsK h1, h2⟩
  have hok : HOk P w H s₁.heap := fun b u e => by
    rcases cs b with ⟨z, q⟩ | ⟨_, z, _, q⟩ | ⟨_, q⟩
    · rw [q] at e
      cases e
      rw [z]
      exact hT
    · rw [q] at e
      cases e
      rw [z]
      exact ⟨ha, by rw [List.length_map]; exact hl, vs, _, rv, ha⟩
    · rw [q] at e
      cases e
  have hS : SqL K H a (ns.map V.int) := by
    cases hk : K.lookup a with
    | some o =>
      have e := KX a o hk
      rw [ha] at e
      cases e
      exact .inr ⟨_, vs.toArray, _, hk, rfl, rfl, rfl, by rw [List.size_toArray, lenV]; exact hl, by simpa using rv⟩
    | none =>
      rcases cs a with ⟨z, _⟩ | ⟨_, _, _, q⟩ | ⟨_, q⟩
      · exact (naP z).elim
      · exact .inl (.inr ⟨_, q⟩)
      · exfalso
        rw [← hH] at q
        unfold heap1 at q
        rw [if_neg naP, if_pos ⟨rfl, hk⟩] at q
        cases q
  have TB : TabB (hidT s₁.heap H) mg c Pt := by
    refine ⟨?_, ?_, fun z => ?_⟩
    · obtain ⟨o, us, file, tf, flags, tg, inF, text, tt, e1, r1, r2, r3, r4, r5, r6, r7, r8, hne⟩ := C
      refine ⟨o, us, file, tf, flags, tg, inF, text, tt, put e1 (fun z => ?_) (fun z => ?_), r1, r2, r3, r4, r5, r6, r7, r8, hne⟩
      · rw [r2] at z
        cases z
        simp at r3
      · rw [r2] at z
        cases z
    · obtain ⟨bm, ob, b1, b2, b3, b4, b5, b6⟩ := hbm
      have q1 := put b3 (by rw [b6]; exact fun z => nomatch z) (by rw [b6]; exact fun z => nomatch z)
      refine ⟨bm, ob, b1, b2, fun q => ?_, fun q => ?_, q1, b4, b5, b6⟩
      · obtain ⟨o, es, ep, e, hd, _⟩ := hns
        rw [q, e] at b3
        cases b3
        rw [hd] at b6
        cases b6
      · rw [q, hT] at b3
        cases b3
        cases b6
    · obtain ⟨o, es, ep, e, hd, _⟩ := hns
      rw [z, hT] at e
      cases e
      cases hd
  have e0 : Env0 P w K mg (hidT s₁.heap H) callerA [] s₁ H := ⟨rfl, hM, fun b o e => of_hidT e, Nat.le_of_eq (hidT_size _ _), trivial, fun b hb => absurd (show b ∈ ([] : List Addr) from hb) (by simp), hok, .of_eq hg⟩
  refine codeAny_mono ((F _ hKb (nsK hns) TB).run callerA [] s₁ H ⟨[.ref a], []⟩ [.ref a] [.ref a] _ _ rfl hr e0 (hbind s₁ (.ref a)) (.cons rfl .nil) (hsp H hP hS)) fun r s' h => ?_
  cases r with
  | error e => exact (show False from h).elim
  | ok fl =>
    cases fl with
    | next => exact False.elim h
    | brk => exact False.elim h
    | cont => exact False.elim h
    | ret u =>
      obtain ⟨v, H', os, bare, un, hok', r', q⟩ := h
      have q' : v = .bl true := q
      subst q'
      obtain rfl : u = Value.bool true := r'
      obtain ⟨more, gm⟩ := un.tbls Pt #[] hP
      have gP := hok' Pt _ gm
      have kept : ∀ b o, b ≠ Pt → s₁.heap.get? b = some o → s'.heap.get? b = some o := fun b o nb e => by
        rcases cs b with ⟨z, _⟩ | ⟨_, z, _, q⟩ | ⟨_, q⟩
        · exact (nb z).elim
        · obtain ⟨g2, _⟩ := hok' b _ (un.frzs b _ _ q)
          rw [z, ha] at e
          cases e
          exact g2
        · exact un.keep b o e q (fun z => absurd (show b ∈ ([] : List Addr) from z) (by simp)) (by simp)
      refine ⟨rfl, ⟨fun b o e => ?_, fun b o e => ?_⟩, os, bare⟩
      · by_cases nb : b = Pt
        · subst nb
          rw [hT] at e
          cases e
          exact .inr (.inl ⟨(C.tab hT).isCodeTable, rfl, #[], more, rfl, gP⟩)
        · exact .inl (kept b o nb e)
      · by_cases nb : b = Pt
        · subst nb
          exact ⟨_, gP⟩
        · exact ⟨o, kept b o nb e⟩
end
end DL
set_option Elab.async false
set_option linter.all false
set_option maxRecDepth 100000
set_option maxHeartbeats 2000000
namespace DL
open PySem L2 Evl RZ PySem.Spec PyProof.Rows LamX
/-! ### 36. the walk to such a law -/
/-- the head's code record tells where the table of a def lies; it is empty -/
def TabsAt (q : Program) (K : PySem.W.Frag) (mg : Str → Option Value) (h : Heap) : Prop := ∀ (x : Str) (b : Addr), ((recsOf q).any fun e => e.name == x) = true → mg x = some (.ref b) → OwnTab K b h
/-- what is known of the law's promise at the head's heap h -/
def LawAtG (l : PySem.W.OpenLaw) (w : World) (K : PySem.W.Frag) (k n : Nat) (x : Str) (mg : Str → Option Value) (fa : Addr) (h : Heap) : Prop :=
  ∃ (fd : FuncData) (c Pt : Addr) (sp : Sp), h.get? Pt = some { cls := .none, data := .fields #[] } ∧ K.lookup Pt = none ∧ PySem.W.CodeHd h c Pt ∧ (∀ (s : Shared) (u : Value), BindsTo s fd ⟨[u], []⟩ [(x, u)]) ∧
    (∀ (H : Hp) (a : Addr) (ns : List Int), ns.length ≤ n → H Pt = some (.tbl #[]) → SqL K H a (ns.map V.int) → sp [.ref a] H (fun v _ => v = .bl true) fun _ _ _ => False) ∧
    ∀ base : Heap, K.In base → base.Ns mainGlobals mg → TabB base mg c Pt → FnOkG l.prog w K mg base k fa fd [x] sp
theorem walk_ofG {l : PySem.W.OpenLaw} {n k : Nat} {q : Program} {loose : List Str} {XP : (Str → Option Value) → Heap → Prop} {YP : World → Heap → Prop} {d : DefRec} {K : Params → PySem.W.Frag} {x : Str}
    (hn : l.most = some n) (hn2 : n ≤ sizeLine) (hdf : d.params.defaults = []) (hr : Room k callerA) (hY : ∀ (w : World) (h : Heap), YP w h → (K w.params).In h)
    (F : ∀ (w : World) (mg : Str → Option Value) (fa : Addr) (h : Heap), YP w h → (K w.params).In h → h.Ns mainGlobals mg → mg d.name = some (.ref fa) → TabsAt q (K w.params) mg h → LawAtG l w (K w.params) k n x mg fa h) :
    PySem.W.WalkO q loose XP YP l.row.toRowW d [] (fun f vs => PySem.call f vs) := by
  refine Att.attach_callB hn hdf fun w s₀ s₁ mg mb fa o pm cd doc a vs ns G Y ho hd hcd hmg hobj hints hlen hbits hg => ?_
  have KX := hY w _ Y
  have tabs : TabsAt q (K w.params) mg s₁.heap := fun y b hrec hb c P o1 fd1 e dd vs1 sl k1 k2 k3 k4 k5 => by
    obtain ⟨dL, hm, hn1⟩ := List.any_eq_true.mp hrec
    obtain ⟨a', o', fd', c', P', h1, h2, h3, h4, h5, ⟨oc, vc, e1, _, e3, e4⟩, hP⟩ := G.T.tab dL hm
    rw [show dL.name = y from beq_iff_eq.mp hn1, hb] at h1
    cases h1
    cases (KX _ _ k1).symm.trans h2
    cases k2.symm.trans h3
    cases k3.symm.trans h4
    cases (KX _ _ k4).symm.trans e1
    cases e3
    cases k5.symm.trans e4
    exact hP
  obtain ⟨fd, c, Pt, sp, hT, nT, C, hb, hsp, hF⟩ := F w mg fa _ Y KX G.T.g hmg tabs
  exact law_callG KX G.T.g G.T.b G.T.builtins G.T.nolimit hg hT nT C G.T.bmain hobj hints (Nat.le_trans hlen hn2) hr hF hb fun H hH hS => hsp H a ns hlen hH hS
end DL
set_option Elab.async false
set_option linter.all false
set_option maxRecDepth 100000
set_option maxHeartbeats 4000000
namespace P75
open PySem L2 Evl DL RZ
def top (i : Nat) : Stmt := PySem.Challenge.pw_chamberpaths_k75_whole_words_lowered.main.body.getD i (.Pass ⟨0, 0, 0, 0⟩)
structure Ads where
  c_BadNumber : Addr
  c_BadItem : Addr
  c_TooMany : Addr
  c_BadColour : Addr
  c_BadWeb : Addr
  c_BadLetters : Addr
  c_Web : Addr
structure Tx (K : PySem.W.Frag) (mg : Str → Option Value) (A : Ads) : Prop where
  g_len : mg "len" = none
  g_list : mg "list" = none
  g_tuple : mg "tuple" = none
  g_all : mg "all" = none
  g_any : mg "any" = none
  g_sorted : mg "sorted" = none
  g_isinstance : mg "isinstance" = none
  g_int : mg "int" = none
  g_bool : mg "bool" = none
  g_range : mg "range" = none
  g_enumerate : mg "enumerate" = none
  g_zip : mg "zip" = none
  g_repr : mg "repr" = none
  g_MOST_POINTS : ∃ u, mg "MOST_POINTS" = some u ∧ RelV (.int 400) u
  g_MOST_COLOURS : ∃ u, mg "MOST_COLOURS" = some u ∧ RelV (.int 5) u
  g_MOST_SIZE : ∃ u, mg "MOST_SIZE" = some u ∧ RelV (.int 5) u
  g_MOST_LETTERS : ∃ u, mg "MOST_LETTERS" = some u ∧ RelV (.int 40) u
  g_Web : ∃ u, mg "Web" = some u ∧ RelV (.ref A.c_Web) u
/-! ### is_integer -/
abbrev s_is_integer : Stmt := top 9
abbrev N_is_integer : List Str := ["value"]
theorem sc_is_integer : FnScope N_is_integer ["value"] (defScope s_is_integer) := ⟨rfl, rfl, rfl, by decide +kernel, rfl, by decide +kernel, by decide +kernel⟩
def t_is_integer (K : PySem.W.Frag) (A : Ads) : TS :=
    (tRet (tAndV (tCB (rIsi K) (tCons (tVar 0) (tCons (tC (.ty "int")) tNil))) (tNotV (tCB (rIsi K) (tCons (tVar 0) (tCons (tC (.ty "bool")) tNil))))))
theorem ok_is_integer {P : Program} {w : World} {K : PySem.W.Frag} {mg : Str → Option Value} {base : Heap} {A : Ads} {sp : Sp} {f : Addr} {fd : FuncData} (F : Fun K "is_integer" "is_integer" s_is_integer f fd) (T : Tx K mg A)
    (hn : ∀ vs H Q E, sp vs H Q E → vs.length = 1) (hp : ∀ vs H Q E, sp vs H Q E → t_is_integer K A { nx := fun _ H' => Q .non H', rt := Q } (L2.start N_is_integer vs) H) : FnOk P w K mg base CX0 1 f fd ["value"] sp := by
  refine F.ok sc_is_integer hn (fun cdv A0 outer s H vs Q E hr h => ⟨t_is_integer K A, ?_, hp vs H Q E h⟩)
  exact (pss_one (ps_ret (pe_and (pe_callB call_isi (by rfl) T.g_isinstance bt_isinstance (pa_cons (pv 0) (pa_cons (pe_bltn (by rfl) T.g_int bt_int rfl) pa_nil))) (pe_one (pe_not (pe_callB call_isi (by rfl) T.g_isinstance bt_isinstance (pa_cons (pv 0) (pa_cons (pe_bltn (by rfl) T.g_bool bt_bool rfl) pa_nil))))))))
/-! ### is_row -/
abbrev s_is_row : Stmt := top 10
abbrev N_is_row : List Str := ["value"]
theorem sc_is_row : FnScope N_is_row ["value"] (defScope s_is_row) := ⟨rfl, rfl, rfl, by decide +kernel, rfl, by decide +kernel, by decide +kernel⟩
def t_is_row (K : PySem.W.Frag) (A : Ads) : TS :=
    (tRet (tCB (rIsiT K) (tCons (tVar 0) (tCons (tTup (tCons (tC (.ty "list")) (tCons (tC (.ty "tuple")) tNil))) tNil))))
theorem ok_is_row {P : Program} {w : World} {K : PySem.W.Frag} {mg : Str → Option Value} {base : Heap} {A : Ads} {sp : Sp} {f : Addr} {fd : FuncData} (F : Fun K "is_row" "is_row" s_is_row f fd) (T : Tx K mg A)
    (hn : ∀ vs H Q E, sp vs H Q E → vs.length = 1) (hp : ∀ vs H Q E, sp vs H Q E → t_is_row K A { nx := fun _ H' => Q .non H', rt := Q } (L2.start N_is_row vs) H) : FnOk P w K mg base CX0 1 f fd ["value"] sp := by
  refine F.ok sc_is_row hn (fun cdv A0 outer s H vs Q E hr h => ⟨t_is_row K A, ?_, hp vs H Q E h⟩)
  exact (pss_one (ps_ret (pe_callB call_isiT (by rfl) T.g_isinstance bt_isinstance (pa_cons (pv 0) (pa_cons (pe_tup (pa_cons (pe_bltn (by rfl) T.g_list bt_list rfl) (pa_cons (pe_bltn (by rfl) T.g_tuple bt_tuple rfl) pa_nil))) pa_nil)))))
/-! ### is_point -/
abbrev s_is_point : Stmt := top 15
abbrev N_is_point : List Str := ["many", "value"]
theorem sc_is_point : FnScope N_is_point ["many", "value"] (defScope s_is_point) := ⟨rfl, rfl, rfl, by decide +kernel, rfl, by decide +kernel, by decide +kernel⟩
def t_is_point (K : PySem.W.Frag) (A : Ads) (sp_is_integer : Sp) : TS :=
    (tRet (tAndV (tCall sp_is_integer [] E0 (tCons (tVar 1) tNil)) (tChain rLeI rLtI (tC (.int 0)) (tVar 1) (tVar 0))))
theorem ok_is_point {P : Program} {w : World} {K : PySem.W.Frag} {mg : Str → Option Value} {base : Heap} {A : Ads} {sp_is_integer : Sp} {sp : Sp} {f : Addr} {fd : FuncData} (F : Fun K "is_point" "is_point" s_is_point f fd) (T : Tx K mg A) (c_is_integer : Cl P w K mg base CX0 1 "is_integer" ["value"] sp_is_integer)
    (hn : ∀ vs H Q E, sp vs H Q E → vs.length = 2) (hp : ∀ vs H Q E, sp vs H Q E → t_is_point K A sp_is_integer { nx := fun _ H' => Q .non H', rt := Q } (L2.start N_is_point vs) H) : FnOk P w K mg base CX0 2 f fd ["many", "value"] sp := by
  refine F.ok sc_is_point hn (fun cdv A0 outer s H vs Q E hr h => ⟨t_is_point K A sp_is_integer, ?_, hp vs H Q E h⟩)
  exact (pss_one (ps_ret (pe_and (pe_cl c_is_integer hr (by decide) rfl pass0 (pa_cons (pv 1) pa_nil)) (pe_one (pe_chain op_le op_lt pe_int (pv 1) (pv 0))))))
/-! ### need_many -/
abbrev s_need_many : Stmt := top 28
abbrev N_need_many : List Str := ["n"]
theorem sc_need_many : FnScope N_need_many ["n"] (defScope s_need_many) := ⟨rfl, rfl, rfl, by decide +kernel, rfl, by decide +kernel, by decide +kernel⟩
def t_need_many (K : PySem.W.Frag) (A : Ads) (sp_is_integer : Sp) (sp_BadNumber_init : Sp) (EX : XK) : TS :=
    (tIfS (tOr (tNot (tB (tCall sp_is_integer [] E0 (tCons (tVar 0) tNil)))) (tNot (tTest (tChain rLeI rLeI (tC (.int 1)) (tVar 0) (tC (.int 5)))))) (tRaiseD A.c_BadNumber sp_BadNumber_init EX (tCons (tC (.str "n")) (tCons (tVar 0) tNil))) tNext)
theorem ok_need_many {P : Program} {w : World} {K : PySem.W.Frag} {mg : Str → Option Value} {base : Heap} {A : Ads} {sp_is_integer : Sp} {sp_BadNumber_init : Sp} {sp : Sp} {f : Addr} {fd : FuncData} (F : Fun K "need_many" "need_many" s_need_many f fd) (T : Tx K mg A) (c_is_integer : Cl P w K mg base CX0 1 "is_integer" ["value"] sp_is_integer) (c_BadNumber : ClC P w K mg base A.c_BadNumber 2 "BadNumber" sp_BadNumber_init)
    (hn : ∀ vs H Q E, sp vs H Q E → vs.length = 1) (hp : ∀ vs H Q E, sp vs H Q E → t_need_many K A sp_is_integer sp_BadNumber_init E { nx := fun _ H' => Q .non H', rt := Q } (L2.start N_need_many vs) H) : FnOk P w K mg base (L2.CX P w) 4 f fd ["n"] sp := by
  refine F.okX sc_need_many hn (fun cdv A0 outer s H vs Q E hr h => ⟨t_need_many K A sp_is_integer sp_BadNumber_init E, ?_, hp vs H Q E h⟩)
  exact (pss_one (ps_if (PW.pt (pw_or (pt_not (pt_val (pe_cl c_is_integer hr (by decide) rfl pass0 (pa_cons (pv 0) pa_nil)))) (pw_or1 (pt_not (pt_chain op_le op_le pe_int (pv 0) (pe_gc rfl T.g_MOST_SIZE)))))) (pss_one (ps_raise rfl (takes_of rfl rfl rfl rfl) (pmk_cl c_BadNumber hr (by decide) rfl (pa_cons pe_str (pa_cons (pv 0) pa_nil))))) pss_nil))
/-! ### need_letters -/
abbrev s_need_letters : Stmt := top 29
abbrev N_need_letters : List Str := ["n", "word", "index", "letter"]
theorem sc_need_letters : FnScope N_need_letters ["n", "word"] (defScope s_need_letters) := ⟨rfl, rfl, rfl, by decide +kernel, rfl, by decide +kernel, by decide +kernel⟩
def t_need_letters (K : PySem.W.Frag) (A : Ads) (sp_is_row : Sp) (sp_BadLetters_init : Sp) (sp_is_point : Sp) (EX : XK) : TS :=
    (tSeq (tIfS (tOr (tNot (tB (tCall sp_is_row [] E0 (tCons (tVar 1) tNil)))) (tTest (tOp rGtI (tCB (rLenS K) (tCons (tVar 1) tNil)) (tC (.int 40))))) (tRaiseD A.c_BadLetters sp_BadLetters_init EX (tCons (tC .non) tNil)) tNext)
    (tSeq (tFor (iEnumA K (tCons (tVar 1) tNil)) (gTup K 2 (gCons (gName 2) (gCons (gName 3) gNil))) (tIfS (tNot (tB (tCall sp_is_point [] E0 (tCons (tOp rAddI (tVar 0) (tC (.int 1))) (tCons (tVar 3) tNil))))) (tRaiseD A.c_BadLetters sp_BadLetters_init EX (tCons (tVar 2) tNil)) tNext))
    (tRet (tCB (rTupleS K) (tCons (tVar 1) tNil)))))
theorem ok_need_letters {P : Program} {w : World} {K : PySem.W.Frag} {mg : Str → Option Value} {base : Heap} {A : Ads} {sp_is_row : Sp} {sp_BadLetters_init : Sp} {sp_is_point : Sp} {sp : Sp} {f : Addr} {fd : FuncData} (F : Fun K "need_letters" "need_letters" s_need_letters f fd) (T : Tx K mg A) (c_is_row : Cl P w K mg base CX0 1 "is_row" ["value"] sp_is_row) (c_BadLetters : ClC P w K mg base A.c_BadLetters 2 "BadLetters" sp_BadLetters_init) (c_is_point : Cl P w K mg base CX0 2 "is_point" ["many", "value"] sp_is_point)
    (hn : ∀ vs H Q E, sp vs H Q E → vs.length = 2) (hp : ∀ vs H Q E, sp vs H Q E → t_need_letters K A sp_is_row sp_BadLetters_init sp_is_point E { nx := fun _ H' => Q .non H', rt := Q } (L2.start N_need_letters vs) H) : FnOk P w K mg base (L2.CX P w) 4 f fd ["n", "word"] sp := by
  refine F.okX sc_need_letters hn (fun cdv A0 outer s H vs Q E hr h => ⟨t_need_letters K A sp_is_row sp_BadLetters_init sp_is_point E, ?_, hp vs H Q E h⟩)
  exact (pss_cons (ps_if (PW.pt (pw_or (pt_not (pt_val (pe_cl c_is_row hr (by decide) rfl pass0 (pa_cons (pv 1) pa_nil)))) (pw_or1 (pt_cmpR op_gt (pe_callB call_len_seq (by rfl) T.g_len bt_len (pa_cons (pv 1) pa_nil)) (pe_gc rfl T.g_MOST_LETTERS) (nomark _))))) (pss_one (ps_raise rfl (takes_of rfl rfl rfl rfl) (pmk_cl c_BadLetters hr (by decide) rfl (pa_cons pe_non pa_nil)))) pss_nil)
      (pss_cons (ps_for (passes_of rfl) rfl (pi_enumA (by rfl) T.g_enumerate (pa_cons (pv 1) pa_nil)) (pg_tup rfl (pgs_cons (pg_name (i := 2) sc_need_letters.nd rfl (Or.inl rfl)) (pgs_cons (pg_name (i := 3) sc_need_letters.nd rfl (Or.inl rfl)) pgs_nil))) (pss_one (ps_if (pt_not (pt_val (pe_cl c_is_point hr (by decide) rfl pass0 (pa_cons (pe_op op_add (pv 0) pe_int) (pa_cons (pv 3) pa_nil))))) (pss_one (ps_raise rfl (takes_of rfl rfl rfl rfl) (pmk_cl c_BadLetters hr (by decide) rfl (pa_cons (pv 2) pa_nil)))) pss_nil)))
      (pss_one (ps_ret (pe_callTy call_tuple_of (by rfl) T.g_tuple bt_tuple (pa_cons (pv 1) pa_nil))))))
/-! ### need_asked -/
abbrev s_need_asked : Stmt := top 30
abbrev N_need_asked : List Str := ["n", "word", "i", "right"]
theorem sc_need_asked : FnScope N_need_asked ["n", "word", "i"] (defScope s_need_asked) := ⟨rfl, rfl, rfl, by decide +kernel, rfl, by decide +kernel, by decide +kernel⟩
def t_need_asked (K : PySem.W.Frag) (A : Ads) (sp_need_many : Sp) (sp_need_letters : Sp) (sp_is_point : Sp) (sp_BadColour_init : Sp) (EX : XK) : TS :=
    (tSeq (tDrop (tCall sp_need_many [] EX (tCons (tVar 0) tNil)))
    (tSeq (tAsg (tCall sp_need_letters [] EX (tCons (tVar 0) (tCons (tVar 1) tNil))) (gName 3))
    (tSeq (tIfS (tNot (tB (tCall sp_is_point [] E0 (tCons (tVar 0) (tCons (tVar 2) tNil))))) (tRaiseD A.c_BadColour sp_BadColour_init EX (tCons (tVar 2) tNil)) tNext)
    (tRet (tVar 3)))))
theorem ok_need_asked {P : Program} {w : World} {K : PySem.W.Frag} {mg : Str → Option Value} {base : Heap} {A : Ads} {sp_need_many : Sp} {sp_need_letters : Sp} {sp_is_point : Sp} {sp_BadColour_init : Sp} {sp : Sp} {f : Addr} {fd : FuncData} (F : Fun K "need_asked" "need_asked" s_need_asked f fd) (T : Tx K mg A) (c_need_many : Cl P w K mg base (L2.CX P w) 4 "need_many" ["n"] sp_need_many) (c_need_letters : Cl P w K mg base (L2.CX P w) 4 "need_letters" ["n", "word"] sp_need_letters) (c_is_point : Cl P w K mg base CX0 2 "is_point" ["many", "value"] sp_is_point) (c_BadColour : ClC P w K mg base A.c_BadColour 2 "BadColour" sp_BadColour_init)
    (hn : ∀ vs H Q E, sp vs H Q E → vs.length = 3) (hp : ∀ vs H Q E, sp vs H Q E → t_need_asked K A sp_need_many sp_need_letters sp_is_point sp_BadColour_init E { nx := fun _ H' => Q .non H', rt := Q } (L2.start N_need_asked vs) H) : FnOk P w K mg base (L2.CX P w) 5 f fd ["n", "word", "i"] sp := by
  refine F.okX sc_need_asked hn (fun cdv A0 outer s H vs Q E hr h => ⟨t_need_asked K A sp_need_many sp_need_letters sp_is_point sp_BadColour_init E, ?_, hp vs H Q E h⟩)
  exact (pss_cons (ps_expr (pe_cl c_need_many hr (by decide) rfl (passes_call (takes_of rfl rfl rfl rfl) (fun _ _ _ _ h => h)) (pa_cons (pv 0) pa_nil)))
      (pss_cons (ps_set (i := 3) sc_need_asked.nd rfl (Or.inl rfl) (pe_cl c_need_letters hr (by decide) rfl (passes_call (takes_of rfl rfl rfl rfl) (fun _ _ _ _ h => h)) (pa_cons (pv 0) (pa_cons (pv 1) pa_nil))))
      (pss_cons (ps_if (pt_not (pt_val (pe_cl c_is_point hr (by decide) rfl pass0 (pa_cons (pv 0) (pa_cons (pv 2) pa_nil))))) (pss_one (ps_raise rfl (takes_of rfl rfl rfl rfl) (pmk_cl c_BadColour hr (by decide) rfl (pa_cons (pv 2) pa_nil)))) pss_nil)
      (pss_one (ps_ret (pv 3))))))
/-! ### left_of -/
abbrev s_left_of : Stmt := top 31
abbrev N_left_of : List Str := ["word", "i", "high", "low", "index", "letter"]
theorem sc_left_of : FnScope N_left_of ["word", "i"] (defScope s_left_of) := ⟨rfl, rfl, rfl, by decide +kernel, rfl, by decide +kernel, by decide +kernel⟩
def t_left_of (K : PySem.W.Frag) (A : Ads) : TS :=
    (tSeq (tPar 2 3 (tCons (tLst tNil) (tCons (tLst tNil) tNil)))
    (tSeq (tFor (iEnumT K (tCons (tVar 0) tNil)) (gTup K 2 (gCons (gName 4) (gCons (gName 5) gNil))) (tIfS (tTest (tOp rEq (tVar 5) (tVar 1))) (tDrop (tBM K "list" rAppend (tVar 3) (tCons (tVar 4) tNil))) (tIfS (tTest (tOp rEq (tVar 5) (tOp rAddI (tVar 1) (tC (.int 1))))) (tIfS (tTest (tOp rGtI (tCB (rLenS K) (tCons (tVar 3) tNil)) (tC (.int 0)))) (tDrop (tBM0 K "list" rPop (tVar 3))) (tDrop (tBM K "list" rAppend (tVar 2) (tCons (tVar 4) tNil)))) tNext)))
    (tRet (tTup (tCons (tVar 2) (tCons (tVar 3) tNil))))))
theorem ok_left_of {P : Program} {w : World} {K : PySem.W.Frag} {mg : Str → Option Value} {base : Heap} {A : Ads} {sp : Sp} {f : Addr} {fd : FuncData} (F : Fun K "left_of" "left_of" s_left_of f fd) (T : Tx K mg A)
    (hn : ∀ vs H Q E, sp vs H Q E → vs.length = 2) (hp : ∀ vs H Q E, sp vs H Q E → t_left_of K A { nx := fun _ H' => Q .non H', rt := Q } (L2.start N_left_of vs) H) : FnOk P w K mg base CX0 1 f fd ["word", "i"] sp := by
  refine F.ok sc_left_of hn (fun cdv A0 outer s H vs Q E hr h => ⟨t_left_of K A, ?_, hp vs H Q E h⟩)
  exact (pss_cons (ps_par (i := 2) (j := 3) (by rfl) sc_left_of.nd rfl rfl (by decide) rfl rfl (pa_cons (pe_lst pa_nil) (pa_cons (pe_lst pa_nil) pa_nil)) (by rfl))
      (pss_cons (ps_for PassesOwn.never rfl (pi_enumT (by rfl) T.g_enumerate (pa_cons (pv 0) pa_nil)) (pg_tup rfl (pgs_cons (pg_name (i := 4) sc_left_of.nd rfl (Or.inl rfl)) (pgs_cons (pg_name (i := 5) sc_left_of.nd rfl (Or.inl rfl)) pgs_nil))) (pss_one (ps_if (pt_cmpR op_eq (pv 5) (pv 1) (nomark _)) (pss_one (ps_expr (pe_bm PySem.F.plainAttrs_list PySem.F.slot_list_append PySem.F.type_list_append mt_append (pv 3) (pa_cons (pv 4) pa_nil)))) (pss_one (ps_if (pt_cmpR op_eq (pv 5) (pe_op op_add (pv 1) pe_int) (nomark _)) (pss_one (ps_if (pt_cmpR op_gt (pe_callB call_len_seq (by rfl) T.g_len bt_len (pa_cons (pv 3) pa_nil)) pe_int (nomark _)) (pss_one (ps_expr (pe_bm0 PySem.F.plainAttrs_list PySem.F.slot_list_pop PySem.F.type_list_pop mt_pop (pv 3)))) (pss_one (ps_expr (pe_bm PySem.F.plainAttrs_list PySem.F.slot_list_append PySem.F.type_list_append mt_append (pv 2) (pa_cons (pv 4) pa_nil)))))) pss_nil)))))
      (pss_one (ps_ret (pe_tup (pa_cons (pv 2) (pa_cons (pv 3) pa_nil)))))))
/-! ### changed -/
abbrev s_changed : Stmt := top 32
abbrev N_changed : List Str := ["word", "index", "letter"]
theorem sc_changed : FnScope N_changed ["word", "index", "letter"] (defScope s_changed) := ⟨rfl, rfl, rfl, by decide +kernel, rfl, by decide +kernel, by decide +kernel⟩
def t_changed (K : PySem.W.Frag) (A : Ads) : TS :=
    (tRet (tOp (rCatA K) (tOp (rCatA K) (tSl (rSlA K) (tVar 0) tNoPart (tPart (tVar 1))) (tTup (tCons (tVar 2) tNil))) (tSl (rSlA K) (tVar 0) (tPart (tOp rAddI (tVar 1) (tC (.int 1)))) tNoPart)))
theorem ok_changed {P : Program} {w : World} {K : PySem.W.Frag} {mg : Str → Option Value} {base : Heap} {A : Ads} {sp : Sp} {f : Addr} {fd : FuncData} (F : Fun K "changed" "changed" s_changed f fd) (T : Tx K mg A)
    (hn : ∀ vs H Q E, sp vs H Q E → vs.length = 3) (hp : ∀ vs H Q E, sp vs H Q E → t_changed K A { nx := fun _ H' => Q .non H', rt := Q } (L2.start N_changed vs) H) : FnOk P w K mg base CX0 1 f fd ["word", "index", "letter"] sp := by
  refine F.ok sc_changed hn (fun cdv A0 outer s H vs Q E hr h => ⟨t_changed K A, ?_, hp vs H Q E h⟩)
  exact (pss_one (ps_ret (pe_op op_catA (pe_op op_catA (pe_slice sl_tupA (pv 0) po_none (po_some (pv 1))) (pe_tup (pa_cons (pv 2) pa_nil))) (pe_slice sl_tupA (pv 0) (po_some (pe_op op_add (pv 1) pe_int)) po_none))))
/-! ### word_down -/
abbrev s_word_down : Stmt := top 33
abbrev N_word_down : List Str := ["word", "i", "low"]
theorem sc_word_down : FnScope N_word_down ["word", "i"] (defScope s_word_down) := ⟨rfl, rfl, rfl, by decide +kernel, rfl, by decide +kernel, by decide +kernel⟩
def t_word_down (K : PySem.W.Frag) (A : Ads) (sp_left_of : Sp) (sp_changed : Sp) : TS :=
    (tSeq (tAsg (tOp (rIx K) (tCall sp_left_of [] E0 (tCons (tVar 0) (tCons (tVar 1) tNil))) (tC (.int 1))) (gName 2))
    (tRet (tIf (tTest (tOp rGtI (tCB (rLenS K) (tCons (tVar 2) tNil)) (tC (.int 0)))) (tCall sp_changed [] E0 (tCons (tVar 0) (tCons (tOp (rIx K) (tVar 2) (tC (.int 0))) (tCons (tOp rAddI (tVar 1) (tC (.int 1))) tNil)))) (tC .non))))
theorem ok_word_down {P : Program} {w : World} {K : PySem.W.Frag} {mg : Str → Option Value} {base : Heap} {A : Ads} {sp_left_of : Sp} {sp_changed : Sp} {sp : Sp} {f : Addr} {fd : FuncData} (F : Fun K "word_down" "word_down" s_word_down f fd) (T : Tx K mg A) (c_left_of : Cl P w K mg base CX0 1 "left_of" ["word", "i"] sp_left_of) (c_changed : Cl P w K mg base CX0 1 "changed" ["word", "index", "letter"] sp_changed)
    (hn : ∀ vs H Q E, sp vs H Q E → vs.length = 2) (hp : ∀ vs H Q E, sp vs H Q E → t_word_down K A sp_left_of sp_changed { nx := fun _ H' => Q .non H', rt := Q } (L2.start N_word_down vs) H) : FnOk P w K mg base CX0 2 f fd ["word", "i"] sp := by
  refine F.ok sc_word_down hn (fun cdv A0 outer s H vs Q E hr h => ⟨t_word_down K A sp_left_of sp_changed, ?_, hp vs H Q E h⟩)
  exact (pss_cons (ps_set (i := 2) sc_word_down.nd rfl (Or.inl rfl) (pe_ix ix_seq (pe_cl c_left_of hr (by decide) rfl pass0 (pa_cons (pv 0) (pa_cons (pv 1) pa_nil))) pe_int (fun _ _ => rfl)))
      (pss_one (ps_ret (pe_ifExp (pt_cmpR op_gt (pe_callB call_len_seq (by rfl) T.g_len bt_len (pa_cons (pv 2) pa_nil)) pe_int (nomark _)) (pe_cl c_changed hr (by decide) rfl pass0 (pa_cons (pv 0) (pa_cons (pe_ix ix_seq (pv 2) pe_int (fun _ _ => rfl)) (pa_cons (pe_op op_add (pv 1) pe_int) pa_nil)))) pe_non))))
/-! ### word_up -/
abbrev s_word_up : Stmt := top 34
abbrev N_word_up : List Str := ["word", "i", "high"]
theorem sc_word_up : FnScope N_word_up ["word", "i"] (defScope s_word_up) := ⟨rfl, rfl, rfl, by decide +kernel, rfl, by decide +kernel, by decide +kernel⟩
def t_word_up (K : PySem.W.Frag) (A : Ads) (sp_left_of : Sp) (sp_changed : Sp) : TS :=
    (tSeq (tAsg (tOp (rIx K) (tCall sp_left_of [] E0 (tCons (tVar 0) (tCons (tVar 1) tNil))) (tC (.int 0))) (gName 2))
    (tRet (tIf (tTest (tOp rGtI (tCB (rLenS K) (tCons (tVar 2) tNil)) (tC (.int 0)))) (tCall sp_changed [] E0 (tCons (tVar 0) (tCons (tOp (rIx K) (tVar 2) (tUn rNegI (tC (.int 1)))) (tCons (tVar 1) tNil)))) (tC .non))))
theorem ok_word_up {P : Program} {w : World} {K : PySem.W.Frag} {mg : Str → Option Value} {base : Heap} {A : Ads} {sp_left_of : Sp} {sp_changed : Sp} {sp : Sp} {f : Addr} {fd : FuncData} (F : Fun K "word_up" "word_up" s_word_up f fd) (T : Tx K mg A) (c_left_of : Cl P w K mg base CX0 1 "left_of" ["word", "i"] sp_left_of) (c_changed : Cl P w K mg base CX0 1 "changed" ["word", "index", "letter"] sp_changed)
    (hn : ∀ vs H Q E, sp vs H Q E → vs.length = 2) (hp : ∀ vs H Q E, sp vs H Q E → t_word_up K A sp_left_of sp_changed { nx := fun _ H' => Q .non H', rt := Q } (L2.start N_word_up vs) H) : FnOk P w K mg base CX0 2 f fd ["word", "i"] sp := by
  refine F.ok sc_word_up hn (fun cdv A0 outer s H vs Q E hr h => ⟨t_word_up K A sp_left_of sp_changed, ?_, hp vs H Q E h⟩)
  exact (pss_cons (ps_set (i := 2) sc_word_up.nd rfl (Or.inl rfl) (pe_ix ix_seq (pe_cl c_left_of hr (by decide) rfl pass0 (pa_cons (pv 0) (pa_cons (pv 1) pa_nil))) pe_int (fun _ _ => rfl)))
      (pss_one (ps_ret (pe_ifExp (pt_cmpR op_gt (pe_callB call_len_seq (by rfl) T.g_len bt_len (pa_cons (pv 2) pa_nil)) pe_int (nomark _)) (pe_cl c_changed hr (by decide) rfl pass0 (pa_cons (pv 0) (pa_cons (pe_ix ix_seq (pv 2) (pe_un un_neg pe_int) (fun _ _ => rfl)) (pa_cons (pv 1) pa_nil)))) pe_non))))
/-! ### lower_word -/
abbrev s_lower_word : Stmt := top 35
abbrev N_lower_word : List Str := ["n", "word", "i"]
theorem sc_lower_word : FnScope N_lower_word ["n", "word", "i"] (defScope s_lower_word) := ⟨rfl, rfl, rfl, by decide +kernel, rfl, by decide +kernel, by decide +kernel⟩
def t_lower_word (K : PySem.W.Frag) (A : Ads) (sp_word_down : Sp) (sp_need_asked : Sp) (EX : XK) : TS :=
    (tRet (tCall sp_word_down [] E0 (tCons (tCall sp_need_asked [] EX (tCons (tVar 0) (tCons (tVar 1) (tCons (tVar 2) tNil)))) (tCons (tVar 2) tNil))))
theorem ok_lower_word {P : Program} {w : World} {K : PySem.W.Frag} {mg : Str → Option Value} {base : Heap} {A : Ads} {sp_word_down : Sp} {sp_need_asked : Sp} {sp : Sp} {f : Addr} {fd : FuncData} (F : Fun K "lower_word" "lower_word" s_lower_word f fd) (T : Tx K mg A) (c_word_down : Cl P w K mg base CX0 2 "word_down" ["word", "i"] sp_word_down) (c_need_asked : Cl P w K mg base (L2.CX P w) 5 "need_asked" ["n", "word", "i"] sp_need_asked)
    (hn : ∀ vs H Q E, sp vs H Q E → vs.length = 3) (hp : ∀ vs H Q E, sp vs H Q E → t_lower_word K A sp_word_down sp_need_asked E { nx := fun _ H' => Q .non H', rt := Q } (L2.start N_lower_word vs) H) : FnOk P w K mg base (L2.CX P w) 6 f fd ["n", "word", "i"] sp := by
  refine F.okX sc_lower_word hn (fun cdv A0 outer s H vs Q E hr h => ⟨t_lower_word K A sp_word_down sp_need_asked E, ?_, hp vs H Q E h⟩)
  exact (pss_one (ps_ret (pe_cl c_word_down hr (by decide) rfl pass0 (pa_cons (pe_cl c_need_asked hr (by decide) rfl (passes_call (takes_of rfl rfl rfl rfl) (fun _ _ _ _ h => h)) (pa_cons (pv 0) (pa_cons (pv 1) (pa_cons (pv 2) pa_nil)))) (pa_cons (pv 2) pa_nil)))))
/-! ### raise_word -/
abbrev s_raise_word : Stmt := top 36
abbrev N_raise_word : List Str := ["n", "word", "i"]
theorem sc_raise_word : FnScope N_raise_word ["n", "word", "i"] (defScope s_raise_word) := ⟨rfl, rfl, rfl, by decide +kernel, rfl, by decide +kernel, by decide +kernel⟩
def t_raise_word (K : PySem.W.Frag) (A : Ads) (sp_word_up : Sp) (sp_need_asked : Sp) (EX : XK) : TS :=
    (tRet (tCall sp_word_up [] E0 (tCons (tCall sp_need_asked [] EX (tCons (tVar 0) (tCons (tVar 1) (tCons (tVar 2) tNil)))) (tCons (tVar 2) tNil))))
theorem ok_raise_word {P : Program} {w : World} {K : PySem.W.Frag} {mg : Str → Option Value} {base : Heap} {A : Ads} {sp_word_up : Sp} {sp_need_asked : Sp} {sp : Sp} {f : Addr} {fd : FuncData} (F : Fun K "raise_word" "raise_word" s_raise_word f fd) (T : Tx K mg A) (c_word_up : Cl P w K mg base CX0 2 "word_up" ["word", "i"] sp_word_up) (c_need_asked : Cl P w K mg base (L2.CX P w) 5 "need_asked" ["n", "word", "i"] sp_need_asked)
    (hn : ∀ vs H Q E, sp vs H Q E → vs.length = 3) (hp : ∀ vs H Q E, sp vs H Q E → t_raise_word K A sp_word_up sp_need_asked E { nx := fun _ H' => Q .non H', rt := Q } (L2.start N_raise_word vs) H) : FnOk P w K mg base (L2.CX P w) 6 f fd ["n", "word", "i"] sp := by
  refine F.okX sc_raise_word hn (fun cdv A0 outer s H vs Q E hr h => ⟨t_raise_word K A sp_word_up sp_need_asked E, ?_, hp vs H Q E h⟩)
  exact (pss_one (ps_ret (pe_cl c_word_up hr (by decide) rfl pass0 (pa_cons (pe_cl c_need_asked hr (by decide) rfl (passes_call (takes_of rfl rfl rfl rfl) (fun _ _ _ _ h => h)) (pa_cons (pv 0) (pa_cons (pv 1) (pa_cons (pv 2) pa_nil)))) (pa_cons (pv 2) pa_nil)))))
/-! ### word_depths -/
abbrev s_word_depths : Stmt := top 37
abbrev N_word_depths : List Str := ["n", "word", "i", "high", "low"]
theorem sc_word_depths : FnScope N_word_depths ["n", "word", "i"] (defScope s_word_depths) := ⟨rfl, rfl, rfl, by decide +kernel, rfl, by decide +kernel, by decide +kernel⟩
def t_word_depths (K : PySem.W.Frag) (A : Ads) (sp_left_of : Sp) (sp_need_asked : Sp) (EX : XK) : TS :=
    (tSeq (tAsg (tCall sp_left_of [] E0 (tCons (tCall sp_need_asked [] EX (tCons (tVar 0) (tCons (tVar 1) (tCons (tVar 2) tNil)))) (tCons (tVar 2) tNil))) (gTup K 2 (gCons (gName 3) (gCons (gName 4) gNil))))
    (tRet (tTup (tCons (tCB (rLenS K) (tCons (tVar 4) tNil)) (tCons (tCB (rLenS K) (tCons (tVar 3) tNil)) tNil)))))
theorem ok_word_depths {P : Program} {w : World} {K : PySem.W.Frag} {mg : Str → Option Value} {base : Heap} {A : Ads} {sp_left_of : Sp} {sp_need_asked : Sp} {sp : Sp} {f : Addr} {fd : FuncData} (F : Fun K "word_depths" "word_depths" s_word_depths f fd) (T : Tx K mg A) (c_left_of : Cl P w K mg base CX0 1 "left_of" ["word", "i"] sp_left_of) (c_need_asked : Cl P w K mg base (L2.CX P w) 5 "need_asked" ["n", "word", "i"] sp_need_asked)
    (hn : ∀ vs H Q E, sp vs H Q E → vs.length = 3) (hp : ∀ vs H Q E, sp vs H Q E → t_word_depths K A sp_left_of sp_need_asked E { nx := fun _ H' => Q .non H', rt := Q } (L2.start N_word_depths vs) H) : FnOk P w K mg base (L2.CX P w) 6 f fd ["n", "word", "i"] sp := by
  refine F.okX sc_word_depths hn (fun cdv A0 outer s H vs Q E hr h => ⟨t_word_depths K A sp_left_of sp_need_asked E, ?_, hp vs H Q E h⟩)
  exact (pss_cons (ps_asg (pe_cl c_left_of hr (by decide) rfl pass0 (pa_cons (pe_cl c_need_asked hr (by decide) rfl (passes_call (takes_of rfl rfl rfl rfl) (fun _ _ _ _ h => h)) (pa_cons (pv 0) (pa_cons (pv 1) (pa_cons (pv 2) pa_nil)))) (pa_cons (pv 2) pa_nil))) (pg_tup rfl (pgs_cons (pg_name (i := 3) sc_word_depths.nd rfl (Or.inl rfl)) (pgs_cons (pg_name (i := 4) sc_word_depths.nd rfl (Or.inl rfl)) pgs_nil))))
      (pss_one (ps_ret (pe_tup (pa_cons (pe_callB call_len_seq (by rfl) T.g_len bt_len (pa_cons (pv 4) pa_nil)) (pa_cons (pe_callB call_len_seq (by rfl) T.g_len bt_len (pa_cons (pv 3) pa_nil)) pa_nil))))))
/-! ### weight_of_letters -/
abbrev s_weight_of_letters : Stmt := top 38
abbrev N_weight_of_letters : List Str := ["n", "word", "counts", "i", "one", "other", "letter"]
theorem sc_weight_of_letters : FnScope N_weight_of_letters ["n", "word"] (defScope s_weight_of_letters) := ⟨rfl, rfl, rfl, by decide +kernel, rfl, by decide +kernel, by decide +kernel⟩
def t_weight_of_letters (K : PySem.W.Frag) (A : Ads) : TS :=
    (tSeq (tAsg (tLc (iRng1 (tCons (tOp rAddI (tVar 0) (tC (.int 1))) tNil)) (gName 3) tYes (tCB (rLenS K) (tCons (tLc (iTup K (tVar 1)) (gName 6) (tTest (tOp rEq (tVar 6) (tVar 3))) (tVar 6) [6]) tNil)) [3]) (gName 2))
    (tRet (tCB (rTupleS K) (tCons (tLc (iZip K (tCons (tVar 2) (tCons (tSl (rSlL K) (tVar 2) (tPart (tC (.int 1))) tNoPart) tNil))) (gTup K 2 (gCons (gName 4) (gCons (gName 5) gNil))) tYes (tOp rSubI (tVar 4) (tVar 5)) [4, 5]) tNil))))
theorem ok_weight_of_letters {P : Program} {w : World} {K : PySem.W.Frag} {mg : Str → Option Value} {base : Heap} {A : Ads} {sp : Sp} {f : Addr} {fd : FuncData} (F : Fun K "weight_of_letters" "weight_of_letters" s_weight_of_letters f fd) (T : Tx K mg A)
    (hn : ∀ vs H Q E, sp vs H Q E → vs.length = 2) (hp : ∀ vs H Q E, sp vs H Q E → t_weight_of_letters K A { nx := fun _ H' => Q .non H', rt := Q } (L2.start N_weight_of_letters vs) H) : FnOk P w K mg base CX0 1 f fd ["n", "word"] sp := by
  refine F.ok sc_weight_of_letters hn (fun cdv A0 outer s H vs Q E hr h => ⟨t_weight_of_letters K A, ?_, hp vs H Q E h⟩)
  exact (pss_cons (ps_setLc (i := 2) (own := [("i", 3)]) (g := (gName 3)) (tt := tYes) (te := (tCB (rLenS K) (tCons (tLc (iTup K (tVar 1)) (gName 6) (tTest (tOp rEq (tVar 6) (tVar 3))) (tVar 6) [6]) tNil))) rfl sc_weight_of_letters.nd rfl rfl (sw_true rfl rfl rfl (by decide +kernel)) (pi_range1 (by rfl) T.g_range (pa_cons (pe_op op_add (pv 0) pe_int) pa_nil)) (blkOk_by (N := N_weight_of_letters) (sc := (defScope s_weight_of_letters)) (own := [("i", 3)]) (by decide +kernel)) (fun _ _ _ _ _ => (pg_name (i := 3) sc_weight_of_letters.nd rfl (Or.inr rfl))) (fun _ _ _ _ _ => pts_nil) (fun _ _ _ _ _ => (pe_callB call_len_seq (by rfl) T.g_len bt_len (pa_cons (pe_lc (own := [("letter", 6)]) (g := (gName 6)) (tt := (tTest (tOp rEq (tVar 6) (tVar 3)))) (te := (tVar 6)) rfl sc_weight_of_letters.nd (pi_tup (pv 1)) (blkOk_by (N := N_weight_of_letters) (sc := ({ kind := .function, names := [(PySem.Str.ofString ".0", .«local»), (PySem.Str.ofString "i", .cell), (PySem.Str.ofString "len", .globalImplicit), (PySem.Str.ofString "word", .cell)], isGenerator := false, isCoroutine := false, more := [] } : Scope)) (own := [("letter", 6)]) (by decide +kernel)) (fun _ _ _ _ _ => (pg_name (i := 6) sc_weight_of_letters.nd rfl (Or.inl rfl))) (fun _ _ _ _ _ => (pts_one (pt_cmpR op_eq (pv 6) (pv 3) (nomark _)))) (fun _ _ _ _ _ => (pv 6))) pa_nil))))
      (pss_one (ps_ret (pe_callTy call_tuple_of (by rfl) T.g_tuple bt_tuple (pa_cons (pe_lc (own := [("one", 4), ("other", 5)]) (g := (gTup K 2 (gCons (gName 4) (gCons (gName 5) gNil)))) (tt := tYes) (te := (tOp rSubI (tVar 4) (tVar 5))) rfl sc_weight_of_letters.nd (pi_zip (by rfl) T.g_zip (pa_cons (pv 2) (pa_cons (pe_slice sl_list (pv 2) (po_some pe_int) po_none) pa_nil))) (blkOk_by (N := N_weight_of_letters) (sc := (defScope s_weight_of_letters)) (own := [("one", 4), ("other", 5)]) (by decide +kernel)) (fun _ _ _ _ _ => (pg_tup rfl (pgs_cons (pg_name (i := 4) sc_weight_of_letters.nd rfl (Or.inl rfl)) (pgs_cons (pg_name (i := 5) sc_weight_of_letters.nd rfl (Or.inl rfl)) pgs_nil)))) (fun _ _ _ _ _ => pts_nil) (fun _ _ _ _ _ => (pe_op op_sub (pv 4) (pv 5)))) pa_nil)))))
/-! ### word_weight -/
abbrev s_word_weight : Stmt := top 39
abbrev N_word_weight : List Str := ["n", "word"]
theorem sc_word_weight : FnScope N_word_weight ["n", "word"] (defScope s_word_weight) := ⟨rfl, rfl, rfl, by decide +kernel, rfl, by decide +kernel, by decide +kernel⟩
def t_word_weight (K : PySem.W.Frag) (A : Ads) (sp_need_many : Sp) (sp_weight_of_letters : Sp) (sp_need_letters : Sp) (EX : XK) : TS :=
    (tSeq (tDrop (tCall sp_need_many [] EX (tCons (tVar 0) tNil)))
    (tRet (tCall sp_weight_of_letters [] E0 (tCons (tVar 0) (tCons (tCall sp_need_letters [] EX (tCons (tVar 0) (tCons (tVar 1) tNil))) tNil)))))
theorem ok_word_weight {P : Program} {w : World} {K : PySem.W.Frag} {mg : Str → Option Value} {base : Heap} {A : Ads} {sp_need_many : Sp} {sp_weight_of_letters : Sp} {sp_need_letters : Sp} {sp : Sp} {f : Addr} {fd : FuncData} (F : Fun K "word_weight" "word_weight" s_word_weight f fd) (T : Tx K mg A) (c_need_many : Cl P w K mg base (L2.CX P w) 4 "need_many" ["n"] sp_need_many) (c_weight_of_letters : Cl P w K mg base CX0 1 "weight_of_letters" ["n", "word"] sp_weight_of_letters) (c_need_letters : Cl P w K mg base (L2.CX P w) 4 "need_letters" ["n", "word"] sp_need_letters)
    (hn : ∀ vs H Q E, sp vs H Q E → vs.length = 2) (hp : ∀ vs H Q E, sp vs H Q E → t_word_weight K A sp_need_many sp_weight_of_letters sp_need_letters E { nx := fun _ H' => Q .non H', rt := Q } (L2.start N_word_weight vs) H) : FnOk P w K mg base (L2.CX P w) 5 f fd ["n", "word"] sp := by
  refine F.okX sc_word_weight hn (fun cdv A0 outer s H vs Q E hr h => ⟨t_word_weight K A sp_need_many sp_weight_of_letters sp_need_letters E, ?_, hp vs H Q E h⟩)
  exact (pss_cons (ps_expr (pe_cl c_need_many hr (by decide) rfl (passes_call (takes_of rfl rfl rfl rfl) (fun _ _ _ _ h => h)) (pa_cons (pv 0) pa_nil)))
      (pss_one (ps_ret (pe_cl c_weight_of_letters hr (by decide) rfl pass0 (pa_cons (pv 0) (pa_cons (pe_cl c_need_letters hr (by decide) rfl (passes_call (takes_of rfl rfl rfl rfl) (fun _ _ _ _ h => h)) (pa_cons (pv 0) (pa_cons (pv 1) pa_nil))) pa_nil))))))
/-! ### is_high -/
abbrev s_is_high : Stmt := top 40
abbrev N_is_high : List Str := ["n", "word", "i"]
theorem sc_is_high : FnScope N_is_high ["n", "word"] (defScope s_is_high) := ⟨rfl, rfl, rfl, by decide +kernel, rfl, by decide +kernel, by decide +kernel⟩
def t_is_high (K : PySem.W.Frag) (A : Ads) (sp_word_up : Sp) : TS :=
    (tRet (tCB (rAll K) (tCons (tLc (iRng1 (tCons (tVar 0) tNil)) (gName 2) tYes (tOp rIsNn (tCall sp_word_up [] E0 (tCons (tVar 1) (tCons (tVar 2) tNil))) (tC .non)) [2]) tNil)))
theorem ok_is_high {P : Program} {w : World} {K : PySem.W.Frag} {mg : Str → Option Value} {base : Heap} {A : Ads} {sp_word_up : Sp} {sp : Sp} {f : Addr} {fd : FuncData} (F : Fun K "is_high" "is_high" s_is_high f fd) (T : Tx K mg A) (c_word_up : Cl P w K mg base CX0 2 "word_up" ["word", "i"] sp_word_up)
    (hn : ∀ vs H Q E, sp vs H Q E → vs.length = 2) (hp : ∀ vs H Q E, sp vs H Q E → t_is_high K A sp_word_up { nx := fun _ H' => Q .non H', rt := Q } (L2.start N_is_high vs) H) : FnOk P w K mg base CX0 3 f fd ["n", "word"] sp := by
  refine F.ok sc_is_high hn (fun cdv A0 outer s H vs Q E hr h => ⟨t_is_high K A sp_word_up, ?_, hp vs H Q E h⟩)
  exact (pss_one (ps_ret (pe_callB (cr_all rfl) (by rfl) T.g_all bt_all (pa_cons (pe_lc (own := [("i", 2)]) (g := (gName 2)) (tt := tYes) (te := (tOp rIsNn (tCall sp_word_up [] E0 (tCons (tVar 1) (tCons (tVar 2) tNil))) (tC .non))) rfl sc_is_high.nd (pi_range1 (by rfl) T.g_range (pa_cons (pv 0) pa_nil)) (blkOk_by (N := N_is_high) (sc := (defScope s_is_high)) (own := [("i", 2)]) (by decide +kernel)) (fun _ _ _ _ _ => (pg_name (i := 2) sc_is_high.nd rfl (Or.inl rfl))) (fun _ _ _ _ _ => pts_nil) (fun _ _ _ _ _ => (pe_cmpR op_isN (pe_cl c_word_up hr (by decide) rfl pass0 (pa_cons (pv 1) (pa_cons (pv 2) pa_nil))) pe_non (nomark _)))) pa_nil))))
/-! ### is_high_word -/
abbrev s_is_high_word : Stmt := top 41
abbrev N_is_high_word : List Str := ["n", "word"]
theorem sc_is_high_word : FnScope N_is_high_word ["n", "word"] (defScope s_is_high_word) := ⟨rfl, rfl, rfl, by decide +kernel, rfl, by decide +kernel, by decide +kernel⟩
def t_is_high_word (K : PySem.W.Frag) (A : Ads) (sp_need_many : Sp) (sp_is_high : Sp) (sp_need_letters : Sp) (EX : XK) : TS :=
    (tSeq (tDrop (tCall sp_need_many [] EX (tCons (tVar 0) tNil)))
    (tRet (tCall sp_is_high [] E0 (tCons (tVar 0) (tCons (tCall sp_need_letters [] EX (tCons (tVar 0) (tCons (tVar 1) tNil))) tNil)))))
theorem ok_is_high_word {P : Program} {w : World} {K : PySem.W.Frag} {mg : Str → Option Value} {base : Heap} {A : Ads} {sp_need_many : Sp} {sp_is_high : Sp} {sp_need_letters : Sp} {sp : Sp} {f : Addr} {fd : FuncData} (F : Fun K "is_high_word" "is_high_word" s_is_high_word f fd) (T : Tx K mg A) (c_need_many : Cl P w K mg base (L2.CX P w) 4 "need_many" ["n"] sp_need_many) (c_is_high : Cl P w K mg base CX0 3 "is_high" ["n", "word"] sp_is_high) (c_need_letters : Cl P w K mg base (L2.CX P w) 4 "need_letters" ["n", "word"] sp_need_letters)
    (hn : ∀ vs H Q E, sp vs H Q E → vs.length = 2) (hp : ∀ vs H Q E, sp vs H Q E → t_is_high_word K A sp_need_many sp_is_high sp_need_letters E { nx := fun _ H' => Q .non H', rt := Q } (L2.start N_is_high_word vs) H) : FnOk P w K mg base (L2.CX P w) 5 f fd ["n", "word"] sp := by
  refine F.okX sc_is_high_word hn (fun cdv A0 outer s H vs Q E hr h => ⟨t_is_high_word K A sp_need_many sp_is_high sp_need_letters E, ?_, hp vs H Q E h⟩)
  exact (pss_cons (ps_expr (pe_cl c_need_many hr (by decide) rfl (passes_call (takes_of rfl rfl rfl rfl) (fun _ _ _ _ h => h)) (pa_cons (pv 0) pa_nil)))
      (pss_one (ps_ret (pe_cl c_is_high hr (by decide) rfl pass0 (pa_cons (pv 0) (pa_cons (pe_cl c_need_letters hr (by decide) rfl (passes_call (takes_of rfl rfl rfl rfl) (fun _ _ _ _ h => h)) (pa_cons (pv 0) (pa_cons (pv 1) pa_nil))) pa_nil))))))
/-! ### are_rows -/
abbrev s_are_rows : Stmt := top 14
abbrev N_are_rows : List Str := ["value", "row"]
theorem sc_are_rows : FnScope N_are_rows ["value"] (defScope s_are_rows) := ⟨rfl, rfl, rfl, by decide +kernel, rfl, by decide +kernel, by decide +kernel⟩
def t_are_rows (K : PySem.W.Frag) (A : Ads) (sp_is_row : Sp) : TS :=
    (tSeq (tIfS (tOr (tNot (tB (tCall sp_is_row [] E0 (tCons (tVar 0) tNil)))) (tOr (tNot (tTest (tChain rLeI rLeI (tC (.int 1)) (tCB (rLenS K) (tCons (tVar 0) tNil)) (tC (.int 5))))) (tNot (tB (tCB (rAll K) (tCons (tLc (iList K (tVar 0)) (gName 1) tYes (tCall sp_is_row [] E0 (tCons (tVar 1) tNil)) [1]) tNil)))))) (tRet (tC (.bl false))) tNext)
    (tRet (tCB (rAll K) (tCons (tLc (iList K (tVar 0)) (gName 1) tYes (tAndV (tChain rLeI rLeI (tC (.int 1)) (tCB (rLenS K) (tCons (tVar 1) tNil)) (tC (.int 400))) (tOp rEq (tCB (rLenS K) (tCons (tVar 1) tNil)) (tCB (rLenS K) (tCons (tOp (rIx K) (tVar 0) (tC (.int 0))) tNil)))) [1]) tNil))))
theorem ok_are_rows {P : Program} {w : World} {K : PySem.W.Frag} {mg : Str → Option Value} {base : Heap} {A : Ads} {sp_is_row : Sp} {sp : Sp} {f : Addr} {fd : FuncData} (F : Fun K "are_rows" "are_rows" s_are_rows f fd) (T : Tx K mg A) (c_is_row : Cl P w K mg base CX0 1 "is_row" ["value"] sp_is_row)
    (hn : ∀ vs H Q E, sp vs H Q E → vs.length = 1) (hp : ∀ vs H Q E, sp vs H Q E → t_are_rows K A sp_is_row { nx := fun _ H' => Q .non H', rt := Q } (L2.start N_are_rows vs) H) : FnOk P w K mg base CX0 2 f fd ["value"] sp := by
  refine F.ok sc_are_rows hn (fun cdv A0 outer s H vs Q E hr h => ⟨t_are_rows K A sp_is_row, ?_, hp vs H Q E h⟩)
  exact (pss_cons (ps_if (PW.pt (pw_or (pt_not (pt_val (pe_cl c_is_row hr (by decide) rfl pass0 (pa_cons (pv 0) pa_nil)))) (pw_or (pt_not (pt_chain op_le op_le pe_int (pe_callB call_len_seq (by rfl) T.g_len bt_len (pa_cons (pv 0) pa_nil)) (pe_gc rfl T.g_MOST_COLOURS))) (pw_or1 (pt_not (pt_val (pe_callB (cr_all rfl) (by rfl) T.g_all bt_all (pa_cons (pe_lc (own := [("row", 1)]) (g := (gName 1)) (tt := tYes) (te := (tCall sp_is_row [] E0 (tCons (tVar 1) tNil))) rfl sc_are_rows.nd (pi_list (pv 0)) (blkOk_by (N := N_are_rows) (sc := (defScope s_are_rows)) (own := [("row", 1)]) (by decide +kernel)) (fun _ _ _ _ _ => (pg_name (i := 1) sc_are_rows.nd rfl (Or.inl rfl))) (fun _ _ _ _ _ => pts_nil) (fun _ _ _ _ _ => (pe_cl c_is_row hr (by decide) rfl pass0 (pa_cons (pv 1) pa_nil)))) pa_nil)))))))) (pss_one (ps_ret pe_bl)) pss_nil)
      (pss_one (ps_ret (pe_callB (cr_all rfl) (by rfl) T.g_all bt_all (pa_cons (pe_lc (own := [("row", 1)]) (g := (gName 1)) (tt := tYes) (te := (tAndV (tChain rLeI rLeI (tC (.int 1)) (tCB (rLenS K) (tCons (tVar 1) tNil)) (tC (.int 400))) (tOp rEq (tCB (rLenS K) (tCons (tVar 1) tNil)) (tCB (rLenS K) (tCons (tOp (rIx K) (tVar 0) (tC (.int 0))) tNil))))) rfl sc_are_rows.nd (pi_list (pv 0)) (blkOk_by (N := N_are_rows) (sc := (defScope s_are_rows)) (own := [("row", 1)]) (by decide +kernel)) (fun _ _ _ _ _ => (pg_name (i := 1) sc_are_rows.nd rfl (Or.inl rfl))) (fun _ _ _ _ _ => pts_nil) (fun _ _ _ _ _ => (pe_and (pe_chain op_le op_le pe_int (pe_callB call_len_seq (by rfl) T.g_len bt_len (pa_cons (pv 1) pa_nil)) (pe_gc rfl T.g_MOST_POINTS)) (pe_one (pe_cmpR op_eq (pe_callB call_len_seq (by rfl) T.g_len bt_len (pa_cons (pv 1) pa_nil)) (pe_callB call_len_seq (by rfl) T.g_len bt_len (pa_cons (pe_ix ix_seq (pv 0) pe_int (fun _ _ => rfl)) pa_nil)) (nomark _)))))) pa_nil)))))
/-! ### has_two -/
abbrev s_has_two : Stmt := top 16
abbrev N_has_two : List Str := ["row", "ends", "end", "one", "other"]
theorem sc_has_two : FnScope N_has_two ["row"] (defScope s_has_two) := ⟨rfl, rfl, rfl, by decide +kernel, rfl, by decide +kernel, by decide +kernel⟩
def t_has_two (K : PySem.W.Frag) (A : Ads) : TS :=
    (tSeq (tAsg (tCB (rSortedI K) (tCons (tLc (iList K (tVar 0)) (gName 2) (tTest (tOp rNotNn (tVar 2) (tC .non))) (tVar 2) [2]) tNil)) (gName 1))
    (tRet (tCB (rAny K) (tCons (tLc (iZip K (tCons (tVar 1) (tCons (tSl (rSlL K) (tVar 1) (tPart (tC (.int 1))) tNoPart) tNil))) (gTup K 2 (gCons (gName 3) (gCons (gName 4) gNil))) tYes (tOp rEq (tVar 3) (tVar 4)) [3, 4]) tNil))))
theorem ok_has_two {P : Program} {w : World} {K : PySem.W.Frag} {mg : Str → Option Value} {base : Heap} {A : Ads} {sp : Sp} {f : Addr} {fd : FuncData} (F : Fun K "has_two" "has_two" s_has_two f fd) (T : Tx K mg A)
    (hn : ∀ vs H Q E, sp vs H Q E → vs.length = 1) (hp : ∀ vs H Q E, sp vs H Q E → t_has_two K A { nx := fun _ H' => Q .non H', rt := Q } (L2.start N_has_two vs) H) : FnOk P w K mg base CX0 1 f fd ["row"] sp := by
  refine F.ok sc_has_two hn (fun cdv A0 outer s H vs Q E hr h => ⟨t_has_two K A, ?_, hp vs H Q E h⟩)
  exact (pss_cons (ps_set (i := 1) sc_has_two.nd rfl (Or.inl rfl) (pe_callB cr_sortedI (by rfl) T.g_sorted bt_sorted (pa_cons (pe_lc (own := [("end", 2)]) (g := (gName 2)) (tt := (tTest (tOp rNotNn (tVar 2) (tC .non)))) (te := (tVar 2)) rfl sc_has_two.nd (pi_list (pv 0)) (blkOk_by (N := N_has_two) (sc := (defScope s_has_two)) (own := [("end", 2)]) (by decide +kernel)) (fun _ _ _ _ _ => (pg_name (i := 2) sc_has_two.nd rfl (Or.inl rfl))) (fun _ _ _ _ _ => (pts_one (pt_cmpR op_notN (pv 2) pe_non (nomark _)))) (fun _ _ _ _ _ => (pv 2))) pa_nil)))
      (pss_one (ps_ret (pe_callB (cr_any rfl) (by rfl) T.g_any bt_any (pa_cons (pe_lc (own := [("one", 3), ("other", 4)]) (g := (gTup K 2 (gCons (gName 3) (gCons (gName 4) gNil)))) (tt := tYes) (te := (tOp rEq (tVar 3) (tVar 4))) rfl sc_has_two.nd (pi_zip (by rfl) T.g_zip (pa_cons (pv 1) (pa_cons (pe_slice sl_list (pv 1) (po_some pe_int) po_none) pa_nil))) (blkOk_by (N := N_has_two) (sc := (defScope s_has_two)) (own := [("one", 3), ("other", 4)]) (by decide +kernel)) (fun _ _ _ _ _ => (pg_tup rfl (pgs_cons (pg_name (i := 3) sc_has_two.nd rfl (Or.inl rfl)) (pgs_cons (pg_name (i := 4) sc_has_two.nd rfl (Or.inl rfl)) pgs_nil)))) (fun _ _ _ _ _ => pts_nil) (fun _ _ _ _ _ => (pe_cmpR op_eq (pv 3) (pv 4) (nomark _)))) pa_nil)))))
/-! ### has_ring -/
abbrev s_has_ring : Stmt := top 17
abbrev N_has_ring : List Str := ["row", "ends", "seen", "start", "here", "end"]
theorem sc_has_ring : FnScope N_has_ring ["row"] (defScope s_has_ring) := ⟨rfl, rfl, rfl, by decide +kernel, rfl, by decide +kernel, by decide +kernel⟩
def t_has_ring (K : PySem.W.Frag) (A : Ads) : TS :=
    (tSeq (tAsg (tDc (iList K (tVar 0)) (gName 5) (tTest (tOp rNotNn (tVar 5) (tC .non))) (tVar 5) (tC (.bl true)) [5]) (gName 1))
    (tSeq (tAsg (tC (.int 0)) (gName 2))
    (tSeq (tFor (iRng1 (tCons (tCB (rLenS K) (tCons (tVar 0) tNil)) tNil)) (gName 3) (tIfS (tB (tDNotIn (tVar 3) (tVar 1))) (tSeq (tAsg (tVar 3) (gName 4))
    (tWhile (tTest (tOp rNotNn (tVar 4) (tC .non))) (tSeq (tAsg (tOp rAddI (tVar 2) (tC (.int 1))) (gName 2))
    (tAsg (tOp (rIx K) (tVar 0) (tVar 4)) (gName 4))))) tNext))
    (tRet (tOp rLtI (tVar 2) (tCB (rLenS K) (tCons (tVar 0) tNil)))))))
theorem ok_has_ring {P : Program} {w : World} {K : PySem.W.Frag} {mg : Str → Option Value} {base : Heap} {A : Ads} {sp : Sp} {f : Addr} {fd : FuncData} (F : Fun K "has_ring" "has_ring" s_has_ring f fd) (T : Tx K mg A)
    (hn : ∀ vs H Q E, sp vs H Q E → vs.length = 1) (hp : ∀ vs H Q E, sp vs H Q E → t_has_ring K A { nx := fun _ H' => Q .non H', rt := Q } (L2.start N_has_ring vs) H) : FnOk P w K mg base CX0 1 f fd ["row"] sp := by
  refine F.ok sc_has_ring hn (fun cdv A0 outer s H vs Q E hr h => ⟨t_has_ring K A, ?_, hp vs H Q E h⟩)
  exact (pss_cons (ps_setDc (i := 1) (own := [("end", 5)]) (g := (gName 5)) (tt := (tTest (tOp rNotNn (tVar 5) (tC .non)))) (tk := (tVar 5)) (tv := (tC (.bl true))) rfl sc_has_ring.nd rfl rfl (sw_trueD rfl rfl rfl (by decide +kernel)) (pi_list (pv 0)) (blkOk_by (N := N_has_ring) (sc := (defScope s_has_ring)) (own := [("end", 5)]) (by decide +kernel)) (fun _ _ _ _ _ => (pg_name (i := 5) sc_has_ring.nd rfl (Or.inl rfl))) (fun _ _ _ _ _ => (pts_one (pt_cmpR op_notN (pv 5) pe_non (nomark _)))) (fun _ _ _ _ _ => (pv 5)) (fun _ _ _ _ _ => pe_bl))
      (pss_cons (ps_set (i := 2) sc_has_ring.nd rfl (Or.inl rfl) pe_int)
      (pss_cons (ps_for PassesOwn.never rfl (pi_range1 (by rfl) T.g_range (pa_cons (pe_callB call_len_seq (by rfl) T.g_len bt_len (pa_cons (pv 0) pa_nil)) pa_nil)) (pg_name (i := 3) sc_has_ring.nd rfl (Or.inl rfl)) (pss_one (ps_if (pt_cmp (pc_dnotin (hu_of hr) (pv 3) (pv 1)) rfl) (pss_cons (ps_set (i := 4) sc_has_ring.nd rfl (Or.inl rfl) (pv 3))
      (pss_one (ps_while PassesOwn.never (pt_cmpR op_notN (pv 4) pe_non (nomark _)) (pss_cons (ps_set (i := 2) sc_has_ring.nd rfl (Or.inl rfl) (pe_op op_add (pv 2) pe_int))
      (pss_one (ps_set (i := 4) sc_has_ring.nd rfl (Or.inl rfl) (pe_ix ix_seq (pv 0) (pv 4) (fun _ _ => rfl)))))))) pss_nil)))
      (pss_one (ps_ret (pe_cmpR op_lt (pv 2) (pe_callB call_len_seq (by rfl) T.g_len bt_len (pa_cons (pv 0) pa_nil)) (nomark _)))))))
/-! ### wrong_arrows -/
abbrev s_wrong_arrows : Stmt := top 18
abbrev N_wrong_arrows : List Str := ["arrows", "many", "row", "end"]
theorem sc_wrong_arrows : FnScope N_wrong_arrows ["arrows"] (defScope s_wrong_arrows) := ⟨rfl, rfl, rfl, by decide +kernel, rfl, by decide +kernel, by decide +kernel⟩
def t_wrong_arrows (K : PySem.W.Frag) (A : Ads) (sp_are_rows : Sp) (sp_is_point : Sp) (sp_has_two : Sp) (sp_has_ring : Sp) : TS :=
    (tSeq (tIfS (tNot (tB (tCall sp_are_rows [] E0 (tCons (tVar 0) tNil)))) (tRet (tC (.str "rows"))) tNext)
    (tSeq (tAsg (tCB (rLenS K) (tCons (tOp (rIx K) (tVar 0) (tC (.int 0))) tNil)) (gName 1))
    (tSeq (tIfS (tNot (tB (tCB (rAll K) (tCons (tLc2 (iList K (tVar 0)) (gName 2) tYes (iList K (tVar 2)) (gName 3) tYes (tOrV (tOp rIsNn (tVar 3) (tC .non)) (tCall sp_is_point [] E0 (tCons (tVar 1) (tCons (tVar 3) tNil)))) [2, 3] [3]) tNil)))) (tRet (tC (.str "point"))) tNext)
    (tSeq (tIfS (tB (tCB (rAny K) (tCons (tLc (iList K (tVar 0)) (gName 2) tYes (tCall sp_has_two [] E0 (tCons (tVar 2) tNil)) [2]) tNil))) (tRet (tC (.str "two"))) tNext)
    (tRet (tIf (tB (tCB (rAny K) (tCons (tLc (iList K (tVar 0)) (gName 2) tYes (tCall sp_has_ring [] E0 (tCons (tVar 2) tNil)) [2]) tNil))) (tC (.str "ring")) (tC .non)))))))
theorem ok_wrong_arrows {P : Program} {w : World} {K : PySem.W.Frag} {mg : Str → Option Value} {base : Heap} {A : Ads} {sp_are_rows : Sp} {sp_is_point : Sp} {sp_has_two : Sp} {sp_has_ring : Sp} {sp : Sp} {f : Addr} {fd : FuncData} (F : Fun K "wrong_arrows" "wrong_arrows" s_wrong_arrows f fd) (T : Tx K mg A) (c_are_rows : Cl P w K mg base CX0 2 "are_rows" ["value"] sp_are_rows) (c_is_point : Cl P w K mg base CX0 2 "is_point" ["many", "value"] sp_is_point) (c_has_two : Cl P w K mg base CX0 1 "has_two" ["row"] sp_has_two) (c_has_ring : Cl P w K mg base CX0 1 "has_ring" ["row"] sp_has_ring)
    (hn : ∀ vs H Q E, sp vs H Q E → vs.length = 1) (hp : ∀ vs H Q E, sp vs H Q E → t_wrong_arrows K A sp_are_rows sp_is_point sp_has_two sp_has_ring { nx := fun _ H' => Q .non H', rt := Q } (L2.start N_wrong_arrows vs) H) : FnOk P w K mg base CX0 3 f fd ["arrows"] sp := by
  refine F.ok sc_wrong_arrows hn (fun cdv A0 outer s H vs Q E hr h => ⟨t_wrong_arrows K A sp_are_rows sp_is_point sp_has_two sp_has_ring, ?_, hp vs H Q E h⟩)
  exact (pss_cons (ps_if (pt_not (pt_val (pe_cl c_are_rows hr (by decide) rfl pass0 (pa_cons (pv 0) pa_nil)))) (pss_one (ps_ret pe_str)) pss_nil)
      (pss_cons (ps_set (i := 1) sc_wrong_arrows.nd rfl (Or.inr rfl) (pe_callB call_len_seq (by rfl) T.g_len bt_len (pa_cons (pe_ix ix_seq (pv 0) pe_int (fun _ _ => rfl)) pa_nil)))
      (pss_cons (ps_if (pt_not (pt_val (pe_callB (cr_all rfl) (by rfl) T.g_all bt_all (pa_cons (pe_lc2 (own := [("row", 2), ("end", 3)]) (g := (gName 2)) (tt := tYes) (g1 := (gName 3)) (tt1 := tYes) (te := (tOrV (tOp rIsNn (tVar 3) (tC .non)) (tCall sp_is_point [] E0 (tCons (tVar 1) (tCons (tVar 3) tNil))))) (vs1 := [3]) rfl sc_wrong_arrows.nd (pi_list (pv 0)) (blkOk_by (N := N_wrong_arrows) (sc := (defScope s_wrong_arrows)) (own := [("row", 2), ("end", 3)]) (by decide +kernel)) (by decide) (fun _ _ _ _ _ => (pg_name (i := 2) sc_wrong_arrows.nd rfl (Or.inl rfl))) (fun _ _ _ _ _ => pts_nil) (fun _ _ _ _ _ => (pi_list (pv 2))) (fun _ _ _ _ _ => (pg_name (i := 3) sc_wrong_arrows.nd rfl (Or.inl rfl))) (fun _ _ _ _ _ => pts_nil) (fun _ _ _ _ _ => (pe_or (pe_cmpR op_isN (pv 3) pe_non (nomark _)) (pe_one (pe_cl c_is_point hr (by decide) rfl pass0 (pa_cons (pv 1) (pa_cons (pv 3) pa_nil))))))) pa_nil)))) (pss_one (ps_ret pe_str)) pss_nil)
      (pss_cons (ps_if (pt_val (pe_callB (cr_any rfl) (by rfl) T.g_any bt_any (pa_cons (pe_lc (own := [("row", 2)]) (g := (gName 2)) (tt := tYes) (te := (tCall sp_has_two [] E0 (tCons (tVar 2) tNil))) rfl sc_wrong_arrows.nd (pi_list (pv 0)) (blkOk_by (N := N_wrong_arrows) (sc := (defScope s_wrong_arrows)) (own := [("row", 2)]) (by decide +kernel)) (fun _ _ _ _ _ => (pg_name (i := 2) sc_wrong_arrows.nd rfl (Or.inl rfl))) (fun _ _ _ _ _ => pts_nil) (fun _ _ _ _ _ => (pe_cl c_has_two hr (by decide) rfl pass0 (pa_cons (pv 2) pa_nil)))) pa_nil))) (pss_one (ps_ret pe_str)) pss_nil)
      (pss_one (ps_ret (pe_ifExp (pt_val (pe_callB (cr_any rfl) (by rfl) T.g_any bt_any (pa_cons (pe_lc (own := [("row", 2)]) (g := (gName 2)) (tt := tYes) (te := (tCall sp_has_ring [] E0 (tCons (tVar 2) tNil))) rfl sc_wrong_arrows.nd (pi_list (pv 0)) (blkOk_by (N := N_wrong_arrows) (sc := (defScope s_wrong_arrows)) (own := [("row", 2)]) (by decide +kernel)) (fun _ _ _ _ _ => (pg_name (i := 2) sc_wrong_arrows.nd rfl (Or.inl rfl))) (fun _ _ _ _ _ => pts_nil) (fun _ _ _ _ _ => (pe_cl c_has_ring hr (by decide) rfl pass0 (pa_cons (pv 2) pa_nil)))) pa_nil))) pe_str pe_non)))))))
/-! ### Web.__init__ -/
abbrev s_Web_init : Stmt := inClass (top 19) 0
abbrev N_Web_init : List Str := ["self", "arrows", "why", "row"]
theorem sc_Web_init : FnScope N_Web_init ["self", "arrows"] (defScope s_Web_init) := ⟨rfl, rfl, rfl, by decide +kernel, rfl, by decide +kernel, by decide +kernel⟩
def t_Web_init (K : PySem.W.Frag) (A : Ads) (sp_wrong_arrows : Sp) (sp_BadWeb_init : Sp) (EX : XK) : TS :=
    (tSeq (tAsg (tCall sp_wrong_arrows [] E0 (tCons (tVar 1) tNil)) (gName 2))
    (tSeq (tIfS (tTest (tOp rNotNn (tVar 2) (tC .non))) (tRaiseD A.c_BadWeb sp_BadWeb_init EX (tCons (tVar 2) tNil)) tNext)
    (tSeq (sFld K (tVar 0) (tCB (rTupleS K) (tCons (tLc (iList K (tVar 1)) (gName 3) tYes (tCB (rTupleS K) (tCons (tVar 3) tNil)) [3]) tNil)) "arrows")
    (tSeq (sFld K (tVar 0) (tCB (rLenS K) (tCons (tFld K (tVar 0) "arrows") tNil)) "colours")
    (sFld K (tVar 0) (tCB (rLenS K) (tCons (tOp (rIx K) (tFld K (tVar 0) "arrows") (tC (.int 0))) tNil)) "many")))))
theorem ok_Web_init {P : Program} {w : World} {K : PySem.W.Frag} {mg : Str → Option Value} {base : Heap} {A : Ads} {sp_wrong_arrows : Sp} {sp_BadWeb_init : Sp} {sp : Sp} {f : Addr} {fd : FuncData} (F : Fun K "__init__" "Web.__init__" s_Web_init f fd) (T : Tx K mg A) (c_wrong_arrows : Cl P w K mg base CX0 3 "wrong_arrows" ["arrows"] sp_wrong_arrows) (c_BadWeb : ClC P w K mg base A.c_BadWeb 2 "BadWeb" sp_BadWeb_init)
    (hn : ∀ vs H Q E, sp vs H Q E → vs.length = 2) (hp : ∀ vs H Q E, sp vs H Q E → t_Web_init K A sp_wrong_arrows sp_BadWeb_init E { nx := fun _ H' => Q .non H', rt := Q } (L2.start N_Web_init vs) H) : FnOk P w K mg base (L2.CX P w) 4 f fd ["self", "arrows"] sp := by
  refine F.okX sc_Web_init hn (fun cdv A0 outer s H vs Q E hr h => ⟨t_Web_init K A sp_wrong_arrows sp_BadWeb_init E, ?_, hp vs H Q E h⟩)
  exact (pss_cons (ps_set (i := 2) sc_Web_init.nd rfl (Or.inl rfl) (pe_cl c_wrong_arrows hr (by decide) rfl pass0 (pa_cons (pv 1) pa_nil)))
      (pss_cons (ps_if (pt_cmpR op_notN (pv 2) pe_non (nomark _)) (pss_one (ps_raise rfl (takes_of rfl rfl rfl rfl) (pmk_cl c_BadWeb hr (by decide) rfl (pa_cons (pv 2) pa_nil)))) pss_nil)
      (pss_cons (ps_fld (pv 0) (pe_callTy call_tuple_of (by rfl) T.g_tuple bt_tuple (pa_cons (pe_lc (own := [("row", 3)]) (g := (gName 3)) (tt := tYes) (te := (tCB (rTupleS K) (tCons (tVar 3) tNil))) rfl sc_Web_init.nd (pi_list (pv 1)) (blkOk_by (N := N_Web_init) (sc := (defScope s_Web_init)) (own := [("row", 3)]) (by decide +kernel)) (fun _ _ _ _ _ => (pg_name (i := 3) sc_Web_init.nd rfl (Or.inl rfl))) (fun _ _ _ _ _ => pts_nil) (fun _ _ _ _ _ => (pe_callTy call_tuple_of (by rfl) T.g_tuple bt_tuple (pa_cons (pv 3) pa_nil)))) pa_nil)) rfl)
      (pss_cons (ps_fld (pv 0) (pe_callB call_len_seq (by rfl) T.g_len bt_len (pa_cons (pe_fld (pv 0) rfl) pa_nil)) rfl)
      (pss_one (ps_fld (pv 0) (pe_callB call_len_seq (by rfl) T.g_len bt_len (pa_cons (pe_ix ix_seq (pe_fld (pv 0) rfl) pe_int (fun _ _ => rfl)) pa_nil)) rfl))))))
/-! ### need_web -/
abbrev s_need_web : Stmt := top 20
abbrev N_need_web : List Str := ["web"]
theorem sc_need_web : FnScope N_need_web ["web"] (defScope s_need_web) := ⟨rfl, rfl, rfl, by decide +kernel, rfl, by decide +kernel, by decide +kernel⟩
def t_need_web (K : PySem.W.Frag) (A : Ads) (sp_BadItem_init : Sp) (EX : XK) : TS :=
    (tIfS (tNot (tB (tCB (rIsi K) (tCons (tVar 0) (tCons (tC (.ref (A.c_Web))) tNil))))) (tRaiseD A.c_BadItem sp_BadItem_init EX (tCons (tVar 0) tNil)) tNext)
theorem ok_need_web {P : Program} {w : World} {K : PySem.W.Frag} {mg : Str → Option Value} {base : Heap} {A : Ads} {sp_BadItem_init : Sp} {sp : Sp} {f : Addr} {fd : FuncData} (F : Fun K "need_web" "need_web" s_need_web f fd) (T : Tx K mg A) (c_BadItem : ClC P w K mg base A.c_BadItem 2 "BadItem" sp_BadItem_init)
    (hn : ∀ vs H Q E, sp vs H Q E → vs.length = 1) (hp : ∀ vs H Q E, sp vs H Q E → t_need_web K A sp_BadItem_init E { nx := fun _ H' => Q .non H', rt := Q } (L2.start N_need_web vs) H) : FnOk P w K mg base (L2.CX P w) 4 f fd ["web"] sp := by
  refine F.okX sc_need_web hn (fun cdv A0 outer s H vs Q E hr h => ⟨t_need_web K A sp_BadItem_init E, ?_, hp vs H Q E h⟩)
  exact (pss_one (ps_if (pt_not (pt_val (pe_callB call_isi (by rfl) T.g_isinstance bt_isinstance (pa_cons (pv 0) (pa_cons (pe_gc rfl T.g_Web) pa_nil))))) (pss_one (ps_raise rfl (takes_of rfl rfl rfl rfl) (pmk_cl c_BadItem hr (by decide) rfl (pa_cons (pv 0) pa_nil)))) pss_nil))
/-! ### backward -/
abbrev s_backward : Stmt := top 21
abbrev N_backward : List Str := ["row", "found", "start", "end"]
theorem sc_backward : FnScope N_backward ["row"] (defScope s_backward) := ⟨rfl, rfl, rfl, by decide +kernel, rfl, by decide +kernel, by decide +kernel⟩
def t_backward (K : PySem.W.Frag) (A : Ads) : TS :=
    (tSeq (tAsg (tOp rRep (tLst (tCons (tC .non) tNil)) (tCB (rLenS K) (tCons (tVar 0) tNil))) (gName 1))
    (tSeq (tFor (iEnumT K (tCons (tVar 0) tNil)) (gTup K 2 (gCons (gName 2) (gCons (gName 3) gNil))) (tIfS (tTest (tOp rNotNn (tVar 3) (tC .non))) (tAsg (tVar 2) (gSub (tVar 1) (tVar 3) rSetL)) tNext))
    (tRet (tCB (rTupleS K) (tCons (tVar 1) tNil)))))
theorem ok_backward {P : Program} {w : World} {K : PySem.W.Frag} {mg : Str → Option Value} {base : Heap} {A : Ads} {sp : Sp} {f : Addr} {fd : FuncData} (F : Fun K "backward" "backward" s_backward f fd) (T : Tx K mg A)
    (hn : ∀ vs H Q E, sp vs H Q E → vs.length = 1) (hp : ∀ vs H Q E, sp vs H Q E → t_backward K A { nx := fun _ H' => Q .non H', rt := Q } (L2.start N_backward vs) H) : FnOk P w K mg base CX0 1 f fd ["row"] sp := by
  refine F.ok sc_backward hn (fun cdv A0 outer s H vs Q E hr h => ⟨t_backward K A, ?_, hp vs H Q E h⟩)
  exact (pss_cons (ps_set (i := 1) sc_backward.nd rfl (Or.inl rfl) (pe_op op_rep (pe_lst (pa_cons pe_non pa_nil)) (pe_callB call_len_seq (by rfl) T.g_len bt_len (pa_cons (pv 0) pa_nil))))
      (pss_cons (ps_for PassesOwn.never rfl (pi_enumT (by rfl) T.g_enumerate (pa_cons (pv 0) pa_nil)) (pg_tup rfl (pgs_cons (pg_name (i := 2) sc_backward.nd rfl (Or.inl rfl)) (pgs_cons (pg_name (i := 3) sc_backward.nd rfl (Or.inl rfl)) pgs_nil))) (pss_one (ps_if (pt_cmpR op_notN (pv 3) pe_non (nomark _)) (pss_one (ps_asg (pv 2) (pg_sub (pv 1) (pv 3) set_list))) pss_nil)))
      (pss_one (ps_ret (pe_callTy call_tuple_of (by rfl) T.g_tuple bt_tuple (pa_cons (pv 1) pa_nil))))))
/-! ### backs_of -/
abbrev s_backs_of : Stmt := top 22
abbrev N_backs_of : List Str := ["web", "row"]
theorem sc_backs_of : FnScope N_backs_of ["web"] (defScope s_backs_of) := ⟨rfl, rfl, rfl, by decide +kernel, rfl, by decide +kernel, by decide +kernel⟩
def t_backs_of (K : PySem.W.Frag) (A : Ads) (sp_backward : Sp) : TS :=
    (tRet (tCB (rTupleS K) (tCons (tLc (iTup K (tFld K (tVar 0) "arrows")) (gName 1) tYes (tCall sp_backward [] E0 (tCons (tVar 1) tNil)) [1]) tNil)))
theorem ok_backs_of {P : Program} {w : World} {K : PySem.W.Frag} {mg : Str → Option Value} {base : Heap} {A : Ads} {sp_backward : Sp} {sp : Sp} {f : Addr} {fd : FuncData} (F : Fun K "backs_of" "backs_of" s_backs_of f fd) (T : Tx K mg A) (c_backward : Cl P w K mg base CX0 1 "backward" ["row"] sp_backward)
    (hn : ∀ vs H Q E, sp vs H Q E → vs.length = 1) (hp : ∀ vs H Q E, sp vs H Q E → t_backs_of K A sp_backward { nx := fun _ H' => Q .non H', rt := Q } (L2.start N_backs_of vs) H) : FnOk P w K mg base CX0 2 f fd ["web"] sp := by
  refine F.ok sc_backs_of hn (fun cdv A0 outer s H vs Q E hr h => ⟨t_backs_of K A sp_backward, ?_, hp vs H Q E h⟩)
  exact (pss_one (ps_ret (pe_callTy call_tuple_of (by rfl) T.g_tuple bt_tuple (pa_cons (pe_lc (own := [("row", 1)]) (g := (gName 1)) (tt := tYes) (te := (tCall sp_backward [] E0 (tCons (tVar 1) tNil))) rfl sc_backs_of.nd (pi_tup (pe_fld (pv 0) rfl)) (blkOk_by (N := N_backs_of) (sc := (defScope s_backs_of)) (own := [("row", 1)]) (by decide +kernel)) (fun _ _ _ _ _ => (pg_name (i := 1) sc_backs_of.nd rfl (Or.inl rfl))) (fun _ _ _ _ _ => pts_nil) (fun _ _ _ _ _ => (pe_cl c_backward hr (by decide) rfl pass0 (pa_cons (pv 1) pa_nil)))) pa_nil))))
/-! ### how_far -/
abbrev s_how_far : Stmt := top 23
abbrev N_how_far : List Str := ["row", "p", "many"]
theorem sc_how_far : FnScope N_how_far ["row", "p"] (defScope s_how_far) := ⟨rfl, rfl, rfl, by decide +kernel, rfl, by decide +kernel, by decide +kernel⟩
def t_how_far (K : PySem.W.Frag) (A : Ads) : TS :=
    (tSeq (tAsg (tC (.int 0)) (gName 2))
    (tSeq (tWhile (tTest (tOp rNotNn (tOp (rIx K) (tVar 0) (tVar 1)) (tC .non))) (tPar 2 1 (tCons (tOp rAddI (tVar 2) (tC (.int 1))) (tCons (tOp (rIx K) (tVar 0) (tVar 1)) tNil))))
    (tRet (tVar 2))))
theorem ok_how_far {P : Program} {w : World} {K : PySem.W.Frag} {mg : Str → Option Value} {base : Heap} {A : Ads} {sp : Sp} {f : Addr} {fd : FuncData} (F : Fun K "how_far" "how_far" s_how_far f fd) (T : Tx K mg A)
    (hn : ∀ vs H Q E, sp vs H Q E → vs.length = 2) (hp : ∀ vs H Q E, sp vs H Q E → t_how_far K A { nx := fun _ H' => Q .non H', rt := Q } (L2.start N_how_far vs) H) : FnOk P w K mg base CX0 1 f fd ["row", "p"] sp := by
  refine F.ok sc_how_far hn (fun cdv A0 outer s H vs Q E hr h => ⟨t_how_far K A, ?_, hp vs H Q E h⟩)
  exact (pss_cons (ps_set (i := 2) sc_how_far.nd rfl (Or.inl rfl) pe_int)
      (pss_cons (ps_while PassesOwn.never (pt_cmpR op_notN (pe_ix ix_seq (pv 0) (pv 1) (fun _ _ => rfl)) pe_non (nomark _)) (pss_one (ps_par (i := 2) (j := 1) (by rfl) sc_how_far.nd rfl rfl (by decide) rfl rfl (pa_cons (pe_op op_add (pv 2) pe_int) (pa_cons (pe_ix ix_seq (pv 0) (pv 1) (fun _ _ => rfl)) pa_nil)) (by rfl))))
      (pss_one (ps_ret (pv 2)))))
/-! ### all_depths -/
abbrev s_all_depths : Stmt := top 24
abbrev N_all_depths : List Str := ["web", "found", "row", "back", "p"]
theorem sc_all_depths : FnScope N_all_depths ["web"] (defScope s_all_depths) := ⟨rfl, rfl, rfl, by decide +kernel, rfl, by decide +kernel, by decide +kernel⟩
def t_all_depths (K : PySem.W.Frag) (A : Ads) (sp_backs_of : Sp) (sp_how_far : Sp) : TS :=
    (tSeq (tAsg (tLst tNil) (gName 1))
    (tSeq (tFor (iZipA K (tCons (tFld K (tVar 0) "arrows") (tCons (tCall sp_backs_of [] E0 (tCons (tVar 0) tNil)) tNil))) (gTup K 2 (gCons (gName 2) (gCons (gName 3) gNil))) (tDrop (tBM K "list" rAppend (tVar 1) (tCons (tLc (iRng1 (tCons (tFld K (tVar 0) "many") tNil)) (gName 4) tYes (tTup (tCons (tCall sp_how_far [] E0 (tCons (tVar 2) (tCons (tVar 4) tNil))) (tCons (tCall sp_how_far [] E0 (tCons (tVar 3) (tCons (tVar 4) tNil))) tNil))) [4]) tNil))))
    (tRet (tVar 1))))
theorem ok_all_depths {P : Program} {w : World} {K : PySem.W.Frag} {mg : Str → Option Value} {base : Heap} {A : Ads} {sp_backs_of : Sp} {sp_how_far : Sp} {sp : Sp} {f : Addr} {fd : FuncData} (F : Fun K "all_depths" "all_depths" s_all_depths f fd) (T : Tx K mg A) (c_backs_of : Cl P w K mg base CX0 2 "backs_of" ["web"] sp_backs_of) (c_how_far : Cl P w K mg base CX0 1 "how_far" ["row", "p"] sp_how_far)
    (hn : ∀ vs H Q E, sp vs H Q E → vs.length = 1) (hp : ∀ vs H Q E, sp vs H Q E → t_all_depths K A sp_backs_of sp_how_far { nx := fun _ H' => Q .non H', rt := Q } (L2.start N_all_depths vs) H) : FnOk P w K mg base CX0 3 f fd ["web"] sp := by
  refine F.ok sc_all_depths hn (fun cdv A0 outer s H vs Q E hr h => ⟨t_all_depths K A sp_backs_of sp_how_far, ?_, hp vs H Q E h⟩)
  exact (pss_cons (ps_set (i := 1) sc_all_depths.nd rfl (Or.inl rfl) (pe_lst pa_nil))
      (pss_cons (ps_for PassesOwn.never rfl (pi_zipA (by rfl) T.g_zip (pa_cons (pe_fld (pv 0) rfl) (pa_cons (pe_cl c_backs_of hr (by decide) rfl pass0 (pa_cons (pv 0) pa_nil)) pa_nil))) (pg_tup rfl (pgs_cons (pg_name (i := 2) sc_all_depths.nd rfl (Or.inr rfl)) (pgs_cons (pg_name (i := 3) sc_all_depths.nd rfl (Or.inr rfl)) pgs_nil))) (pss_one (ps_expr (pe_bm PySem.F.plainAttrs_list PySem.F.slot_list_append PySem.F.type_list_append mt_append (pv 1) (pa_cons (pe_lc (own := [("p", 4)]) (g := (gName 4)) (tt := tYes) (te := (tTup (tCons (tCall sp_how_far [] E0 (tCons (tVar 2) (tCons (tVar 4) tNil))) (tCons (tCall sp_how_far [] E0 (tCons (tVar 3) (tCons (tVar 4) tNil))) tNil)))) rfl sc_all_depths.nd (pi_range1 (by rfl) T.g_range (pa_cons (pe_fld (pv 0) rfl) pa_nil)) (blkOk_by (N := N_all_depths) (sc := (defScope s_all_depths)) (own := [("p", 4)]) (by decide +kernel)) (fun _ _ _ _ _ => (pg_name (i := 4) sc_all_depths.nd rfl (Or.inl rfl))) (fun _ _ _ _ _ => pts_nil) (fun _ _ _ _ _ => (pe_tup (pa_cons (pe_cl c_how_far hr (by decide) rfl pass0 (pa_cons (pv 2) (pa_cons (pv 4) pa_nil))) (pa_cons (pe_cl c_how_far hr (by decide) rfl pass0 (pa_cons (pv 3) (pa_cons (pv 4) pa_nil))) pa_nil))))) pa_nil)))))
      (pss_one (ps_ret (pv 1)))))
/-! ### need_alike_colours -/
abbrev s_need_alike_colours : Stmt := top 43
abbrev N_need_alike_colours : List Str := ["one", "other"]
theorem sc_need_alike_colours : FnScope N_need_alike_colours ["one", "other"] (defScope s_need_alike_colours) := ⟨rfl, rfl, rfl, by decide +kernel, rfl, by decide +kernel, by decide +kernel⟩
def t_need_alike_colours (K : PySem.W.Frag) (A : Ads) (sp_need_web : Sp) (sp_BadItem_init : Sp) (EX : XK) : TS :=
    (tSeq (tDrop (tCall sp_need_web [] EX (tCons (tVar 0) tNil)))
    (tSeq (tDrop (tCall sp_need_web [] EX (tCons (tVar 1) tNil)))
    (tIfS (tTest (tOp rNe (tFld K (tVar 0) "colours") (tFld K (tVar 1) "colours"))) (tRaiseD A.c_BadItem sp_BadItem_init EX (tCons (tVar 1) tNil)) tNext)))
theorem ok_need_alike_colours {P : Program} {w : World} {K : PySem.W.Frag} {mg : Str → Option Value} {base : Heap} {A : Ads} {sp_need_web : Sp} {sp_BadItem_init : Sp} {sp : Sp} {f : Addr} {fd : FuncData} (F : Fun K "need_alike_colours" "need_alike_colours" s_need_alike_colours f fd) (T : Tx K mg A) (c_need_web : Cl P w K mg base (L2.CX P w) 4 "need_web" ["web"] sp_need_web) (c_BadItem : ClC P w K mg base A.c_BadItem 2 "BadItem" sp_BadItem_init)
    (hn : ∀ vs H Q E, sp vs H Q E → vs.length = 2) (hp : ∀ vs H Q E, sp vs H Q E → t_need_alike_colours K A sp_need_web sp_BadItem_init E { nx := fun _ H' => Q .non H', rt := Q } (L2.start N_need_alike_colours vs) H) : FnOk P w K mg base (L2.CX P w) 5 f fd ["one", "other"] sp := by
  refine F.okX sc_need_alike_colours hn (fun cdv A0 outer s H vs Q E hr h => ⟨t_need_alike_colours K A sp_need_web sp_BadItem_init E, ?_, hp vs H Q E h⟩)
  exact (pss_cons (ps_expr (pe_cl c_need_web hr (by decide) rfl (passes_call (takes_of rfl rfl rfl rfl) (fun _ _ _ _ h => h)) (pa_cons (pv 0) pa_nil)))
      (pss_cons (ps_expr (pe_cl c_need_web hr (by decide) rfl (passes_call (takes_of rfl rfl rfl rfl) (fun _ _ _ _ h => h)) (pa_cons (pv 1) pa_nil)))
      (pss_one (ps_if (pt_cmpR op_ne (pe_fld (pv 0) rfl) (pe_fld (pv 1) rfl) (nomark _)) (pss_one (ps_raise rfl (takes_of rfl rfl rfl rfl) (pmk_cl c_BadItem hr (by decide) rfl (pa_cons (pv 1) pa_nil)))) pss_nil))))
/-! ### joined_row -/
abbrev s_joined_row : Stmt := top 44
abbrev N_joined_row : List Str := ["one", "other", "i", "first", "second", "row", "p", "q", "end"]
theorem sc_joined_row : FnScope N_joined_row ["one", "other", "i", "first", "second"] (defScope s_joined_row) := ⟨rfl, rfl, rfl, by decide +kernel, rfl, by decide +kernel, by decide +kernel⟩
def t_joined_row (K : PySem.W.Frag) (A : Ads) : TS :=
    (tSeq (tAsg (tLst tNil) (gName 5))
    (tSeq (tFor (iRng1 (tCons (tFld K (tVar 0) "many") tNil)) (gName 6) (tFor (iRng1 (tCons (tFld K (tVar 1) "many") tNil)) (gName 7) (tIfS (tTest (tOp rGtI (tOp (rIx K) (tOp (rIx K) (tOp (rIx K) (tVar 3) (tVar 2)) (tVar 6)) (tC (.int 0))) (tOp (rIx K) (tOp (rIx K) (tOp (rIx K) (tVar 4) (tVar 2)) (tVar 7)) (tC (.int 1))))) (tDrop (tBM K "list" rAppend (tVar 5) (tCons (tOp rAddI (tOp rMulI (tOp (rIx K) (tOp (rIx K) (tFld K (tVar 0) "arrows") (tVar 2)) (tVar 6)) (tFld K (tVar 1) "many")) (tVar 7)) tNil))) (tSeq (tAsg (tOp (rIx K) (tOp (rIx K) (tFld K (tVar 1) "arrows") (tVar 2)) (tVar 7)) (gName 8))
    (tDrop (tBM K "list" rAppend (tVar 5) (tCons (tIf (tTest (tOp rIsNn (tVar 8) (tC .non))) (tC .non) (tOp rAddI (tOp rMulI (tVar 6) (tFld K (tVar 1) "many")) (tVar 8))) tNil)))))))
    (tRet (tVar 5))))
theorem ok_joined_row {P : Program} {w : World} {K : PySem.W.Frag} {mg : Str → Option Value} {base : Heap} {A : Ads} {sp : Sp} {f : Addr} {fd : FuncData} (F : Fun K "joined_row" "joined_row" s_joined_row f fd) (T : Tx K mg A)
    (hn : ∀ vs H Q E, sp vs H Q E → vs.length = 5) (hp : ∀ vs H Q E, sp vs H Q E → t_joined_row K A { nx := fun _ H' => Q .non H', rt := Q } (L2.start N_joined_row vs) H) : FnOk P w K mg base CX0 1 f fd ["one", "other", "i", "first", "second"] sp := by
  refine F.ok sc_joined_row hn (fun cdv A0 outer s H vs Q E hr h => ⟨t_joined_row K A, ?_, hp vs H Q E h⟩)
  exact (pss_cons (ps_set (i := 5) sc_joined_row.nd rfl (Or.inl rfl) (pe_lst pa_nil))
      (pss_cons (ps_for PassesOwn.never rfl (pi_range1 (by rfl) T.g_range (pa_cons (pe_fld (pv 0) rfl) pa_nil)) (pg_name (i := 6) sc_joined_row.nd rfl (Or.inl rfl)) (pss_one (ps_for PassesOwn.never rfl (pi_range1 (by rfl) T.g_range (pa_cons (pe_fld (pv 1) rfl) pa_nil)) (pg_name (i := 7) sc_joined_row.nd rfl (Or.inl rfl)) (pss_one (ps_if (pt_cmpR op_gt (pe_ix ix_seq (pe_ix ix_seq (pe_ix ix_seq (pv 3) (pv 2) (fun _ _ => rfl)) (pv 6) (fun _ _ => rfl)) pe_int (fun _ _ => rfl)) (pe_ix ix_seq (pe_ix ix_seq (pe_ix ix_seq (pv 4) (pv 2) (fun _ _ => rfl)) (pv 7) (fun _ _ => rfl)) pe_int (fun _ _ => rfl)) (nomark _)) (pss_one (ps_expr (pe_bm PySem.F.plainAttrs_list PySem.F.slot_list_append PySem.F.type_list_append mt_append (pv 5) (pa_cons (pe_op op_add (pe_op op_mul (pe_ix ix_seq (pe_ix ix_seq (pe_fld (pv 0) rfl) (pv 2) (fun _ _ => rfl)) (pv 6) (fun _ _ => rfl)) (pe_fld (pv 1) rfl)) (pv 7)) pa_nil)))) (pss_cons (ps_set (i := 8) sc_joined_row.nd rfl (Or.inl rfl) (pe_ix ix_seq (pe_ix ix_seq (pe_fld (pv 1) rfl) (pv 2) (fun _ _ => rfl)) (pv 7) (fun _ _ => rfl)))
      (pss_one (ps_expr (pe_bm PySem.F.plainAttrs_list PySem.F.slot_list_append PySem.F.type_list_append mt_append (pv 5) (pa_cons (pe_ifExp (pt_cmpR op_isN (pv 8) pe_non (nomark _)) pe_non (pe_op op_add (pe_op op_mul (pv 6) (pe_fld (pv 1) rfl)) (pv 8))) pa_nil))))))))))
      (pss_one (ps_ret (pv 5)))))
/-! ### joined -/
abbrev s_joined : Stmt := top 45
abbrev N_joined : List Str := ["one", "other", "first", "second", "i"]
theorem sc_joined : FnScope N_joined ["one", "other"] (defScope s_joined) := ⟨rfl, rfl, rfl, by decide +kernel, rfl, by decide +kernel, by decide +kernel⟩
def t_joined (K : PySem.W.Frag) (A : Ads) (sp_need_alike_colours : Sp) (sp_TooMany_init : Sp) (sp_all_depths : Sp) (sp_joined_row : Sp) (sp_Web_init : Sp) (EX : XK) : TS :=
    (tSeq (tDrop (tCall sp_need_alike_colours [] EX (tCons (tVar 0) (tCons (tVar 1) tNil))))
    (tSeq (tIfS (tTest (tOp rGtI (tOp rMulI (tFld K (tVar 0) "many") (tFld K (tVar 1) "many")) (tC (.int 400)))) (tRaiseD A.c_TooMany sp_TooMany_init EX (tCons (tC (.str "points")) (tCons (tC (.int 400)) tNil))) tNext)
    (tSeq (tAsg (tTup (tCons (tCall sp_all_depths [] E0 (tCons (tVar 0) tNil)) (tCons (tCall sp_all_depths [] E0 (tCons (tVar 1) tNil)) tNil))) (gTup K 2 (gCons (gName 2) (gCons (gName 3) gNil))))
    (tRet (tMake A.c_Web sp_Web_init [] EX (tCons (tLc (iRng1 (tCons (tFld K (tVar 0) "colours") tNil)) (gName 4) tYes (tCall sp_joined_row [] E0 (tCons (tVar 0) (tCons (tVar 1) (tCons (tVar 4) (tCons (tVar 2) (tCons (tVar 3) tNil)))))) [4]) tNil))))))
theorem ok_joined {P : Program} {w : World} {K : PySem.W.Frag} {mg : Str → Option Value} {base : Heap} {A : Ads} {sp_need_alike_colours : Sp} {sp_TooMany_init : Sp} {sp_all_depths : Sp} {sp_joined_row : Sp} {sp_Web_init : Sp} {sp : Sp} {f : Addr} {fd : FuncData} (F : Fun K "joined" "joined" s_joined f fd) (T : Tx K mg A) (c_need_alike_colours : Cl P w K mg base (L2.CX P w) 5 "need_alike_colours" ["one", "other"] sp_need_alike_colours) (c_TooMany : ClC P w K mg base A.c_TooMany 2 "TooMany" sp_TooMany_init) (c_all_depths : Cl P w K mg base CX0 3 "all_depths" ["web"] sp_all_depths) (c_joined_row : Cl P w K mg base CX0 1 "joined_row" ["one", "other", "i", "first", "second"] sp_joined_row) (c_Web : ClM P w K mg base (L2.CX P w) A.c_Web 4 "Web" ["self", "arrows"] sp_Web_init)
    (hn : ∀ vs H Q E, sp vs H Q E → vs.length = 2) (hp : ∀ vs H Q E, sp vs H Q E → t_joined K A sp_need_alike_colours sp_TooMany_init sp_all_depths sp_joined_row sp_Web_init E { nx := fun _ H' => Q .non H', rt := Q } (L2.start N_joined vs) H) : FnOk P w K mg base (L2.CX P w) 6 f fd ["one", "other"] sp := by
  refine F.okX sc_joined hn (fun cdv A0 outer s H vs Q E hr h => ⟨t_joined K A sp_need_alike_colours sp_TooMany_init sp_all_depths sp_joined_row sp_Web_init E, ?_, hp vs H Q E h⟩)
  exact (pss_cons (ps_expr (pe_cl c_need_alike_colours hr (by decide) rfl (passes_call (takes_of rfl rfl rfl rfl) (fun _ _ _ _ h => h)) (pa_cons (pv 0) (pa_cons (pv 1) pa_nil))))
      (pss_cons (ps_if (pt_cmpR op_gt (pe_op op_mul (pe_fld (pv 0) rfl) (pe_fld (pv 1) rfl)) (pe_gc rfl T.g_MOST_POINTS) (nomark _)) (pss_one (ps_raise rfl (takes_of rfl rfl rfl rfl) (pmk_cl c_TooMany hr (by decide) rfl (pa_cons pe_str (pa_cons (pe_gc rfl T.g_MOST_POINTS) pa_nil))))) pss_nil)
      (pss_cons (ps_asg (pe_tup (pa_cons (pe_cl c_all_depths hr (by decide) rfl pass0 (pa_cons (pv 0) pa_nil)) (pa_cons (pe_cl c_all_depths hr (by decide) rfl pass0 (pa_cons (pv 1) pa_nil)) pa_nil))) (pg_tup rfl (pgs_cons (pg_name (i := 2) sc_joined.nd rfl (Or.inr rfl)) (pgs_cons (pg_name (i := 3) sc_joined.nd rfl (Or.inr rfl)) pgs_nil))))
      (pss_one (ps_ret (pe_mkc c_Web hr (by decide) rfl (passes_call (takes_of rfl rfl rfl rfl) (fun _ _ _ _ h => h)) (pa_cons (pe_lc (own := [("i", 4)]) (g := (gName 4)) (tt := tYes) (te := (tCall sp_joined_row [] E0 (tCons (tVar 0) (tCons (tVar 1) (tCons (tVar 4) (tCons (tVar 2) (tCons (tVar 3) tNil))))))) rfl sc_joined.nd (pi_range1 (by rfl) T.g_range (pa_cons (pe_fld (pv 0) rfl) pa_nil)) (blkOk_by (N := N_joined) (sc := (defScope s_joined)) (own := [("i", 4)]) (by decide +kernel)) (fun _ _ _ _ _ => (pg_name (i := 4) sc_joined.nd rfl (Or.inl rfl))) (fun _ _ _ _ _ => pts_nil) (fun _ _ _ _ _ => (pe_cl c_joined_row hr (by decide) rfl pass0 (pa_cons (pv 0) (pa_cons (pv 1) (pa_cons (pv 4) (pa_cons (pv 2) (pa_cons (pv 3) pa_nil)))))))) pa_nil)))))))
/-! ### _law_pen -/
abbrev s__law_pen : Stmt := top 47
abbrev N__law_pen : List Str := ["script", "fold", "cell"]
theorem sc__law_pen : FnScope N__law_pen ["script"] (defScope s__law_pen) := ⟨rfl, rfl, rfl, by decide +kernel, rfl, by decide +kernel, by decide +kernel⟩
def t__law_pen (K : PySem.W.Frag) (A : Ads) : TS :=
    (tSeq (tAsg (tC (.int 0)) (gName 1))
    (tSeq (tFor (iList K (tVar 0)) (gName 2) (tAsg (tOp rModN (tCB rIntS (tCons (tOp rAddI (tOp rMulI (tVar 1) (tC (.int 47))) (tVar 2)) tNil)) (tC (.int 1000000007))) (gName 1)))
    (tRet (tDisp [((tC (.str "cells")), (tCB (rListS K) (tCons (tVar 0) tNil))), ((tC (.str "at")), (tC (.int 0))), ((tC (.str "digits")), (tC (.int 0))), ((tC (.str "count")), (tC (.int 0))), ((tC (.str "fold")), (tVar 1))]))))
theorem ok__law_pen {P : Program} {w : World} {K : PySem.W.Frag} {mg : Str → Option Value} {base : Heap} {A : Ads} {sp : Sp} {f : Addr} {fd : FuncData} (F : Fun K "_law_pen" "_law_pen" s__law_pen f fd) (T : Tx K mg A)
    (hn : ∀ vs H Q E, sp vs H Q E → vs.length = 1) (hp : ∀ vs H Q E, sp vs H Q E → t__law_pen K A { nx := fun _ H' => Q .non H', rt := Q } (L2.start N__law_pen vs) H) : FnOk P w K mg base CX0 1 f fd ["script"] sp := by
  refine F.ok sc__law_pen hn (fun cdv A0 outer s H vs Q E hr h => ⟨t__law_pen K A, ?_, hp vs H Q E h⟩)
  exact (pss_cons (ps_set (i := 1) sc__law_pen.nd rfl (Or.inl rfl) pe_int)
      (pss_cons (ps_for PassesOwn.never rfl (pi_list (pv 0)) (pg_name (i := 2) sc__law_pen.nd rfl (Or.inl rfl)) (pss_one (ps_set (i := 1) sc__law_pen.nd rfl (Or.inl rfl) (pe_op op_modN (pe_callTy call_int1 (by rfl) T.g_int bt_int (pa_cons (pe_op op_add (pe_op op_mul (pv 1) pe_int) (pv 2)) pa_nil)) pe_int))))
      (pss_one (ps_ret (pe_disp (pps_cons pe_str (pe_callTy call_list_of (by rfl) T.g_list bt_list (pa_cons (pv 0) pa_nil)) (pps_cons pe_str pe_int (pps_cons pe_str pe_int (pps_cons pe_str pe_int (pps_cons pe_str (pv 1) pps_nil))))) rfl rfl (List.cons_ne_nil _ _) (by decide))))))
/-! ### _law_draw -/
abbrev s__law_draw : Stmt := top 48
abbrev N__law_draw : List Str := ["pen", "many", "cell", "digit", "mixed"]
theorem sc__law_draw : FnScope N__law_draw ["pen", "many"] (defScope s__law_draw) := ⟨rfl, rfl, rfl, by decide +kernel, rfl, by decide +kernel, by decide +kernel⟩
def t__law_draw (K : PySem.W.Frag) (A : Ads) : TS :=
    (tSeq (sDPut (tVar 0) (tC (.str "count")) (tOp rAddI (tDGet (tVar 0) (tC (.str "count"))) (tC (.int 1))))
    (tSeq (tIfS (tAnd (tTest (tOp rEq (tDGet (tVar 0) (tC (.str "digits"))) (tC (.int 0)))) (tTest (tOp rLtI (tDGet (tVar 0) (tC (.str "at"))) (tCB (rLenS K) (tCons (tDGet (tVar 0) (tC (.str "cells"))) tNil))))) (tSeq (tAsg (tOp (rIx K) (tDGet (tVar 0) (tC (.str "cells"))) (tDGet (tVar 0) (tC (.str "at")))) (gName 2))
    (tSeq (sDPut (tVar 0) (tC (.str "at")) (tOp rAddI (tDGet (tVar 0) (tC (.str "at"))) (tC (.int 1))))
    (tIfS (tTest (tOp rGeI (tVar 2) (tOp rPowI (tC (.int 10)) (tC (.int 18))))) (sDPut (tVar 0) (tC (.str "digits")) (tOp rSubI (tVar 2) (tOp rPowI (tC (.int 10)) (tC (.int 18))))) (sDPut (tVar 0) (tC (.str "fold")) (tOp rModN (tCB rIntS (tCons (tOp rAddI (tOp rMulI (tDGet (tVar 0) (tC (.str "fold"))) (tC (.int 69069))) (tVar 2)) tNil)) (tC (.int 2147483587))))))) tNext)
    (tSeq (tIfS (tTest (tOp rGtI (tDGet (tVar 0) (tC (.str "digits"))) (tC (.int 0)))) (tSeq (tAsg (tOp rModN (tCB rIntS (tCons (tDGet (tVar 0) (tC (.str "digits"))) tNil)) (tVar 1)) (gName 3))
    (tSeq (sDPut (tVar 0) (tC (.str "digits")) (tOp rFdivN (tDGet (tVar 0) (tC (.str "digits"))) (tVar 1)))
    (tRet (tVar 3)))) tNext)
    (tSeq (tAsg (tOp rAddI (tOp rAddI (tDGet (tVar 0) (tC (.str "fold"))) (tOp rMulI (tDGet (tVar 0) (tC (.str "count"))) (tC (.int 7907)))) (tC (.int 37))) (gName 4))
    (tRet (tOp rModN (tOp rFdivN (tCB rIntS (tCons (tOp rModN (tOp rPowI (tVar 4) (tC (.int 17))) (tC (.int 2305843009213693951))) tNil)) (tC (.int 128))) (tVar 1)))))))
theorem ok__law_draw {P : Program} {w : World} {K : PySem.W.Frag} {mg : Str → Option Value} {base : Heap} {A : Ads} {sp : Sp} {f : Addr} {fd : FuncData} (F : Fun K "_law_draw" "_law_draw" s__law_draw f fd) (T : Tx K mg A)
    (hn : ∀ vs H Q E, sp vs H Q E → vs.length = 2) (hp : ∀ vs H Q E, sp vs H Q E → t__law_draw K A { nx := fun _ H' => Q .non H', rt := Q } (L2.start N__law_draw vs) H) : FnOk P w K mg base CX0 1 f fd ["pen", "many"] sp := by
  refine F.ok sc__law_draw hn (fun cdv A0 outer s H vs Q E hr h => ⟨t__law_draw K A, ?_, hp vs H Q E h⟩)
  exact (pss_cons (ps_dput (hu_of hr) (pv 0) pe_str (pe_op op_add (pe_dget (hu_of hr) (pv 0) pe_str (fun _ _ => rfl)) pe_int) rfl)
      (pss_cons (ps_if (PW.pt (pw_and (pt_cmpR op_eq (pe_dget (hu_of hr) (pv 0) pe_str (fun _ _ => rfl)) pe_int (nomark _)) (pw_and1 (pt_cmpR op_lt (pe_dget (hu_of hr) (pv 0) pe_str (fun _ _ => rfl)) (pe_callB call_len_seq (by rfl) T.g_len bt_len (pa_cons (pe_dget (hu_of hr) (pv 0) pe_str (fun _ _ => rfl)) pa_nil)) (nomark _))))) (pss_cons (ps_set (i := 2) sc__law_draw.nd rfl (Or.inl rfl) (pe_ix ix_seq (pe_dget (hu_of hr) (pv 0) pe_str (fun _ _ => rfl)) (pe_dget (hu_of hr) (pv 0) pe_str (fun _ _ => rfl)) (fun _ _ => rfl)))
      (pss_cons (ps_dput (hu_of hr) (pv 0) pe_str (pe_op op_add (pe_dget (hu_of hr) (pv 0) pe_str (fun _ _ => rfl)) pe_int) rfl)
      (pss_one (ps_if (pt_cmpR op_ge (pv 2) (pe_op op_pow pe_int pe_int) (nomark _)) (pss_one (ps_dput (hu_of hr) (pv 0) pe_str (pe_op op_sub (pv 2) (pe_op op_pow pe_int pe_int)) rfl)) (pss_one (ps_dput (hu_of hr) (pv 0) pe_str (pe_op op_modN (pe_callTy call_int1 (by rfl) T.g_int bt_int (pa_cons (pe_op op_add (pe_op op_mul (pe_dget (hu_of hr) (pv 0) pe_str (fun _ _ => rfl)) pe_int) (pv 2)) pa_nil)) pe_int) rfl)))))) pss_nil)
      (pss_cons (ps_if (pt_cmpR op_gt (pe_dget (hu_of hr) (pv 0) pe_str (fun _ _ => rfl)) pe_int (nomark _)) (pss_cons (ps_set (i := 3) sc__law_draw.nd rfl (Or.inl rfl) (pe_op op_modN (pe_callTy call_int1 (by rfl) T.g_int bt_int (pa_cons (pe_dget (hu_of hr) (pv 0) pe_str (fun _ _ => rfl)) pa_nil)) (pv 1)))
      (pss_cons (ps_dput (hu_of hr) (pv 0) pe_str (pe_op op_fdivN (pe_dget (hu_of hr) (pv 0) pe_str (fun _ _ => rfl)) (pv 1)) rfl)
      (pss_one (ps_ret (pv 3))))) pss_nil)
      (pss_cons (ps_set (i := 4) sc__law_draw.nd rfl (Or.inl rfl) (pe_op op_add (pe_op op_add (pe_dget (hu_of hr) (pv 0) pe_str (fun _ _ => rfl)) (pe_op op_mul (pe_dget (hu_of hr) (pv 0) pe_str (fun _ _ => rfl)) pe_int)) pe_int))
      (pss_one (ps_ret (pe_op op_modN (pe_op op_fdivN (pe_callTy call_int1 (by rfl) T.g_int bt_int (pa_cons (pe_op op_modN (pe_op op_pow (pv 4) pe_int) pe_int) pa_nil)) pe_int) (pv 1))))))))
/-! ### _law_pick -/
abbrev s__law_pick : Stmt := top 49
abbrev N__law_pick : List Str := ["pen", "some"]
theorem sc__law_pick : FnScope N__law_pick ["pen", "some"] (defScope s__law_pick) := ⟨rfl, rfl, rfl, by decide +kernel, rfl, by decide +kernel, by decide +kernel⟩
def t__law_pick (K : PySem.W.Frag) (A : Ads) (sp__law_draw : Sp) : TS :=
    (tRet (tOp (rIx K) (tVar 1) (tCall sp__law_draw [] E0 (tCons (tVar 0) (tCons (tCB (rLenS K) (tCons (tVar 1) tNil)) tNil)))))
theorem ok__law_pick {P : Program} {w : World} {K : PySem.W.Frag} {mg : Str → Option Value} {base : Heap} {A : Ads} {sp__law_draw : Sp} {sp : Sp} {f : Addr} {fd : FuncData} (F : Fun K "_law_pick" "_law_pick" s__law_pick f fd) (T : Tx K mg A) (c__law_draw : Cl P w K mg base CX0 1 "_law_draw" ["pen", "many"] sp__law_draw)
    (hn : ∀ vs H Q E, sp vs H Q E → vs.length = 2) (hp : ∀ vs H Q E, sp vs H Q E → t__law_pick K A sp__law_draw { nx := fun _ H' => Q .non H', rt := Q } (L2.start N__law_pick vs) H) : FnOk P w K mg base CX0 2 f fd ["pen", "some"] sp := by
  refine F.ok sc__law_pick hn (fun cdv A0 outer s H vs Q E hr h => ⟨t__law_pick K A sp__law_draw, ?_, hp vs H Q E h⟩)
  exact (pss_one (ps_ret (pe_ix ix_seq (pv 1) (pe_cl c__law_draw hr (by decide) rfl pass0 (pa_cons (pv 0) (pa_cons (pe_callB call_len_seq (by rfl) T.g_len bt_len (pa_cons (pv 1) pa_nil)) pa_nil))) (fun _ _ => rfl))))
/-! ### _law_listed -/
abbrev s__law_listed : Stmt := top 50
abbrev N__law_listed : List Str := ["pen", "row"]
theorem sc__law_listed : FnScope N__law_listed ["pen", "row"] (defScope s__law_listed) := ⟨rfl, rfl, rfl, by decide +kernel, rfl, by decide +kernel, by decide +kernel⟩
def t__law_listed (K : PySem.W.Frag) (A : Ads) (sp__law_draw : Sp) : TS :=
    (tRet (tIf (tTest (tOp rEq (tCall sp__law_draw [] E0 (tCons (tVar 0) (tCons (tC (.int 2)) tNil))) (tC (.int 0)))) (tCB (rListS K) (tCons (tVar 1) tNil)) (tCB (rTupleS K) (tCons (tVar 1) tNil))))
theorem ok__law_listed {P : Program} {w : World} {K : PySem.W.Frag} {mg : Str → Option Value} {base : Heap} {A : Ads} {sp__law_draw : Sp} {sp : Sp} {f : Addr} {fd : FuncData} (F : Fun K "_law_listed" "_law_listed" s__law_listed f fd) (T : Tx K mg A) (c__law_draw : Cl P w K mg base CX0 1 "_law_draw" ["pen", "many"] sp__law_draw)
    (hn : ∀ vs H Q E, sp vs H Q E → vs.length = 2) (hp : ∀ vs H Q E, sp vs H Q E → t__law_listed K A sp__law_draw { nx := fun _ H' => Q .non H', rt := Q } (L2.start N__law_listed vs) H) : FnOk P w K mg base CX0 2 f fd ["pen", "row"] sp := by
  refine F.ok sc__law_listed hn (fun cdv A0 outer s H vs Q E hr h => ⟨t__law_listed K A sp__law_draw, ?_, hp vs H Q E h⟩)
  exact (pss_one (ps_ret (pe_ifExp (pt_cmpR op_eq (pe_cl c__law_draw hr (by decide) rfl pass0 (pa_cons (pv 0) (pa_cons pe_int pa_nil))) pe_int (nomark _)) (pe_callTy call_list_of (by rfl) T.g_list bt_list (pa_cons (pv 1) pa_nil)) (pe_callTy call_tuple_of (by rfl) T.g_tuple bt_tuple (pa_cons (pv 1) pa_nil)))))
/-! ### _law_is_truth -/
abbrev s__law_is_truth : Stmt := top 51
abbrev N__law_is_truth : List Str := ["told", "due"]
theorem sc__law_is_truth : FnScope N__law_is_truth ["told", "due"] (defScope s__law_is_truth) := ⟨rfl, rfl, rfl, by decide +kernel, rfl, by decide +kernel, by decide +kernel⟩
def t__law_is_truth (K : PySem.W.Frag) (A : Ads) : TS :=
    (tRet (tAndV (tCB (rIsi K) (tCons (tVar 0) (tCons (tC (.ty "bool")) tNil))) (tOp rEq (tVar 0) (tVar 1))))
theorem ok__law_is_truth {P : Program} {w : World} {K : PySem.W.Frag} {mg : Str → Option Value} {base : Heap} {A : Ads} {sp : Sp} {f : Addr} {fd : FuncData} (F : Fun K "_law_is_truth" "_law_is_truth" s__law_is_truth f fd) (T : Tx K mg A)
    (hn : ∀ vs H Q E, sp vs H Q E → vs.length = 2) (hp : ∀ vs H Q E, sp vs H Q E → t__law_is_truth K A { nx := fun _ H' => Q .non H', rt := Q } (L2.start N__law_is_truth vs) H) : FnOk P w K mg base CX0 1 f fd ["told", "due"] sp := by
  refine F.ok sc__law_is_truth hn (fun cdv A0 outer s H vs Q E hr h => ⟨t__law_is_truth K A, ?_, hp vs H Q E h⟩)
  exact (pss_one (ps_ret (pe_and (pe_callB call_isi (by rfl) T.g_isinstance bt_isinstance (pa_cons (pv 0) (pa_cons (pe_bltn (by rfl) T.g_bool bt_bool rfl) pa_nil))) (pe_one (pe_cmpR op_eq (pv 0) (pv 1) (nomark _))))))
/-! ### _law_is_int -/
abbrev s__law_is_int : Stmt := top 52
abbrev N__law_is_int : List Str := ["value"]
theorem sc__law_is_int : FnScope N__law_is_int ["value"] (defScope s__law_is_int) := ⟨rfl, rfl, rfl, by decide +kernel, rfl, by decide +kernel, by decide +kernel⟩
def t__law_is_int (K : PySem.W.Frag) (A : Ads) : TS :=
    (tRet (tAndV (tCB (rIsi K) (tCons (tVar 0) (tCons (tC (.ty "int")) tNil))) (tNotV (tCB (rIsi K) (tCons (tVar 0) (tCons (tC (.ty "bool")) tNil))))))
theorem ok__law_is_int {P : Program} {w : World} {K : PySem.W.Frag} {mg : Str → Option Value} {base : Heap} {A : Ads} {sp : Sp} {f : Addr} {fd : FuncData} (F : Fun K "_law_is_int" "_law_is_int" s__law_is_int f fd) (T : Tx K mg A)
    (hn : ∀ vs H Q E, sp vs H Q E → vs.length = 1) (hp : ∀ vs H Q E, sp vs H Q E → t__law_is_int K A { nx := fun _ H' => Q .non H', rt := Q } (L2.start N__law_is_int vs) H) : FnOk P w K mg base CX0 1 f fd ["value"] sp := by
  refine F.ok sc__law_is_int hn (fun cdv A0 outer s H vs Q E hr h => ⟨t__law_is_int K A, ?_, hp vs H Q E h⟩)
  exact (pss_one (ps_ret (pe_and (pe_callB call_isi (by rfl) T.g_isinstance bt_isinstance (pa_cons (pv 0) (pa_cons (pe_bltn (by rfl) T.g_int bt_int rfl) pa_nil))) (pe_one (pe_not (pe_callB call_isi (by rfl) T.g_isinstance bt_isinstance (pa_cons (pv 0) (pa_cons (pe_bltn (by rfl) T.g_bool bt_bool rfl) pa_nil))))))))
/-! ### _law_is_ints -/
abbrev s__law_is_ints : Stmt := top 53
abbrev N__law_is_ints : List Str := ["value", "many", "item"]
theorem sc__law_is_ints : FnScope N__law_is_ints ["value", "many"] (defScope s__law_is_ints) := ⟨rfl, rfl, rfl, by decide +kernel, rfl, by decide +kernel, by decide +kernel⟩
def t__law_is_ints (K : PySem.W.Frag) (A : Ads) (sp__law_is_int : Sp) : TS :=
    (tSeq (tIfS (tNot (tB (tCB (rIsi K) (tCons (tVar 0) (tCons (tC (.ty "tuple")) tNil))))) (tRet (tC (.bl false))) tNext)
    (tRet (tOp (rEqD K) (tLc (iTup K (tVar 0)) (gName 2) (tOr (tNot (tB (tCall sp__law_is_int [] E0 (tCons (tVar 2) tNil)))) (tNot (tTest (tChain rLeI rLtI (tC (.int 0)) (tVar 2) (tVar 1))))) (tC (.int 1)) [2]) (tLst tNil))))
theorem ok__law_is_ints {P : Program} {w : World} {K : PySem.W.Frag} {mg : Str → Option Value} {base : Heap} {A : Ads} {sp__law_is_int : Sp} {sp : Sp} {f : Addr} {fd : FuncData} (F : Fun K "_law_is_ints" "_law_is_ints" s__law_is_ints f fd) (T : Tx K mg A) (c__law_is_int : Cl P w K mg base CX0 1 "_law_is_int" ["value"] sp__law_is_int)
    (hn : ∀ vs H Q E, sp vs H Q E → vs.length = 2) (hp : ∀ vs H Q E, sp vs H Q E → t__law_is_ints K A sp__law_is_int { nx := fun _ H' => Q .non H', rt := Q } (L2.start N__law_is_ints vs) H) : FnOk P w K mg base CX0 2 f fd ["value", "many"] sp := by
  refine F.ok sc__law_is_ints hn (fun cdv A0 outer s H vs Q E hr h => ⟨t__law_is_ints K A sp__law_is_int, ?_, hp vs H Q E h⟩)
  exact (pss_cons (ps_if (pt_not (pt_val (pe_callB call_isi (by rfl) T.g_isinstance bt_isinstance (pa_cons (pv 0) (pa_cons (pe_bltn (by rfl) T.g_tuple bt_tuple rfl) pa_nil))))) (pss_one (ps_ret pe_bl)) pss_nil)
      (pss_one (ps_ret (pe_cmpR (op_eqD hr.units) (pe_lc (own := [("item", 2)]) (g := (gName 2)) (tt := (tOr (tNot (tB (tCall sp__law_is_int [] E0 (tCons (tVar 2) tNil)))) (tNot (tTest (tChain rLeI rLtI (tC (.int 0)) (tVar 2) (tVar 1)))))) (te := (tC (.int 1))) rfl sc__law_is_ints.nd (pi_tup (pv 0)) (blkOk_by (N := N__law_is_ints) (sc := (defScope s__law_is_ints)) (own := [("item", 2)]) (by decide +kernel)) (fun _ _ _ _ _ => (pg_name (i := 2) sc__law_is_ints.nd rfl (Or.inl rfl))) (fun _ _ _ _ _ => (pts_one (PW.pt (pw_or (pt_not (pt_val (pe_cl c__law_is_int hr (by decide) rfl pass0 (pa_cons (pv 2) pa_nil)))) (pw_or1 (pt_not (pt_chain op_le op_lt pe_int (pv 2) (pv 1)))))))) (fun _ _ _ _ _ => pe_int)) (pe_lst pa_nil) (nomark _)))))
/-! ### _law_odd_point -/
abbrev s__law_odd_point : Stmt := top 54
abbrev N__law_odd_point : List Str := ["pen", "many"]
theorem sc__law_odd_point : FnScope N__law_odd_point ["pen", "many"] (defScope s__law_odd_point) := ⟨rfl, rfl, rfl, by decide +kernel, rfl, by decide +kernel, by decide +kernel⟩
def t__law_odd_point (K : PySem.W.Frag) (A : Ads) (sp__law_pick : Sp) : TS :=
    (tRet (tCall sp__law_pick [] E0 (tCons (tVar 0) (tCons (tLst (tCons (tVar 1) (tCons (tUn rNegI (tC (.int 1))) (tCons (tC .non) (tCons (tC (.bl true)) (tCons (tC (.str "0")) (tCons (tTup (tCons (tC (.int 0)) tNil)) tNil))))))) tNil))))
theorem ok__law_odd_point {P : Program} {w : World} {K : PySem.W.Frag} {mg : Str → Option Value} {base : Heap} {A : Ads} {sp__law_pick : Sp} {sp : Sp} {f : Addr} {fd : FuncData} (F : Fun K "_law_odd_point" "_law_odd_point" s__law_odd_point f fd) (T : Tx K mg A) (c__law_pick : Cl P w K mg base CX0 2 "_law_pick" ["pen", "some"] sp__law_pick)
    (hn : ∀ vs H Q E, sp vs H Q E → vs.length = 2) (hp : ∀ vs H Q E, sp vs H Q E → t__law_odd_point K A sp__law_pick { nx := fun _ H' => Q .non H', rt := Q } (L2.start N__law_odd_point vs) H) : FnOk P w K mg base CX0 3 f fd ["pen", "many"] sp := by
  refine F.ok sc__law_odd_point hn (fun cdv A0 outer s H vs Q E hr h => ⟨t__law_odd_point K A sp__law_pick, ?_, hp vs H Q E h⟩)
  exact (pss_one (ps_ret (pe_cl c__law_pick hr (by decide) rfl pass0 (pa_cons (pv 0) (pa_cons (pe_lst (pa_cons (pv 1) (pa_cons (pe_un un_neg pe_int) (pa_cons pe_non (pa_cons pe_bl (pa_cons pe_str (pa_cons (pe_tup (pa_cons pe_int pa_nil)) pa_nil))))))) pa_nil)))))
/-! ### _law_left -/
abbrev s__law_left : Stmt := top 55
abbrev N__law_left : List Str := ["pen", "word", "i", "left", "lap", "k", "pairs", "index", "letter"]
theorem sc__law_left : FnScope N__law_left ["pen", "word", "i"] (defScope s__law_left) := ⟨rfl, rfl, rfl, by decide +kernel, rfl, by decide +kernel, by decide +kernel⟩
def t__law_left (K : PySem.W.Frag) (A : Ads) (sp__law_pick : Sp) : TS :=
    (tSeq (tAsg (tLc (iEnum K (tCons (tVar 1) tNil)) (gTup K 2 (gCons (gName 7) (gCons (gName 8) gNil))) (tTest (tOp (rIn K false) (tVar 8) (tLst (tCons (tVar 2) (tCons (tOp rAddI (tVar 2) (tC (.int 1))) tNil))))) (tVar 7) [7, 8]) (gName 3))
    (tSeq (tFor (iRng1 (tCons (tCB (rLenS K) (tCons (tVar 1) tNil)) tNil)) (gName 4) (tSeq (tAsg (tLc (iRng2 (tCons (tC (.int 1)) (tCons (tCB (rLenS K) (tCons (tVar 3) tNil)) tNil))) (gName 5) (tAnd (tTest (tOp rEq (tOp (rIx K) (tVar 1) (tOp (rIx K) (tVar 3) (tOp rSubI (tVar 5) (tC (.int 1))))) (tVar 2))) (tTest (tOp rEq (tOp (rIx K) (tVar 1) (tOp (rIx K) (tVar 3) (tVar 5))) (tOp rAddI (tVar 2) (tC (.int 1)))))) (tVar 5) [5]) (gName 6))
    (tSeq (tIfS (tTest (tOp (rEqD K) (tVar 6) (tLst tNil))) tBreak tNext)
    (tSeq (tAsg (tCall sp__law_pick [] E0 (tCons (tVar 0) (tCons (tVar 6) tNil))) (gName 5))
    (tAsg (tOp rCat (tSl (rSlL K) (tVar 3) tNoPart (tPart (tOp rSubI (tVar 5) (tC (.int 1))))) (tSl (rSlL K) (tVar 3) (tPart (tOp rAddI (tVar 5) (tC (.int 1)))) tNoPart)) (gName 3))))))
    (tRet (tTup (tCons (tLc (iList K (tVar 3)) (gName 5) (tTest (tOp rEq (tOp (rIx K) (tVar 1) (tVar 5)) (tOp rAddI (tVar 2) (tC (.int 1))))) (tVar 5) [5]) (tCons (tLc (iList K (tVar 3)) (gName 5) (tTest (tOp rEq (tOp (rIx K) (tVar 1) (tVar 5)) (tVar 2))) (tVar 5) [5]) tNil))))))
theorem ok__law_left {P : Program} {w : World} {K : PySem.W.Frag} {mg : Str → Option Value} {base : Heap} {A : Ads} {sp__law_pick : Sp} {sp : Sp} {f : Addr} {fd : FuncData} (F : Fun K "_law_left" "_law_left" s__law_left f fd) (T : Tx K mg A) (c__law_pick : Cl P w K mg base CX0 2 "_law_pick" ["pen", "some"] sp__law_pick)
    (hn : ∀ vs H Q E, sp vs H Q E → vs.length = 3) (hp : ∀ vs H Q E, sp vs H Q E → t__law_left K A sp__law_pick { nx := fun _ H' => Q .non H', rt := Q } (L2.start N__law_left vs) H) : FnOk P w K mg base CX0 3 f fd ["pen", "word", "i"] sp := by
  refine F.ok sc__law_left hn (fun cdv A0 outer s H vs Q E hr h => ⟨t__law_left K A sp__law_pick, ?_, hp vs H Q E h⟩)
  exact (pss_cons (ps_set (i := 3) sc__law_left.nd rfl (Or.inr rfl) (pe_lc (own := [("index", 7), ("letter", 8)]) (g := (gTup K 2 (gCons (gName 7) (gCons (gName 8) gNil)))) (tt := (tTest (tOp (rIn K false) (tVar 8) (tLst (tCons (tVar 2) (tCons (tOp rAddI (tVar 2) (tC (.int 1))) tNil)))))) (te := (tVar 7)) rfl sc__law_left.nd (pi_enum (by rfl) T.g_enumerate (pa_cons (pv 1) pa_nil)) (blkOk_by (N := N__law_left) (sc := (defScope s__law_left)) (own := [("index", 7), ("letter", 8)]) (by decide +kernel)) (fun _ _ _ _ _ => (pg_tup rfl (pgs_cons (pg_name (i := 7) sc__law_left.nd rfl (Or.inl rfl)) (pgs_cons (pg_name (i := 8) sc__law_left.nd rfl (Or.inl rfl)) pgs_nil)))) (fun _ _ _ _ _ => (pts_one (pt_cmpR op_in_seq (pv 8) (pe_lst (pa_cons (pv 2) (pa_cons (pe_op op_add (pv 2) pe_int) pa_nil))) rfl))) (fun _ _ _ _ _ => (pv 7))))
      (pss_cons (ps_for PassesOwn.never rfl (pi_range1 (by rfl) T.g_range (pa_cons (pe_callB call_len_seq (by rfl) T.g_len bt_len (pa_cons (pv 1) pa_nil)) pa_nil)) (pg_name (i := 4) sc__law_left.nd rfl (Or.inl rfl)) (pss_cons (ps_setLc (i := 6) (own := [("k", 5)]) (g := (gName 5)) (tt := (tAnd (tTest (tOp rEq (tOp (rIx K) (tVar 1) (tOp (rIx K) (tVar 3) (tOp rSubI (tVar 5) (tC (.int 1))))) (tVar 2))) (tTest (tOp rEq (tOp (rIx K) (tVar 1) (tOp (rIx K) (tVar 3) (tVar 5))) (tOp rAddI (tVar 2) (tC (.int 1))))))) (te := (tVar 5)) rfl sc__law_left.nd rfl rfl (sw_true rfl rfl rfl (by decide +kernel)) (pi_range2 (by rfl) T.g_range (pa_cons pe_int (pa_cons (pe_callB call_len_seq (by rfl) T.g_len bt_len (pa_cons (pv 3) pa_nil)) pa_nil))) (blkOk_by (N := N__law_left) (sc := (defScope s__law_left)) (own := [("k", 5)]) (by decide +kernel)) (fun _ _ _ _ _ => (pg_name (i := 5) sc__law_left.nd rfl (Or.inl rfl))) (fun _ _ _ _ _ => (pts_one (PW.pt (pw_and (pt_cmpR op_eq (pe_ix ix_seq (pv 1) (pe_ix ix_seq (pv 3) (pe_op op_sub (pv 5) pe_int) (fun _ _ => rfl)) (fun _ _ => rfl)) (pv 2) (nomark _)) (pw_and1 (pt_cmpR op_eq (pe_ix ix_seq (pv 1) (pe_ix ix_seq (pv 3) (pv 5) (fun _ _ => rfl)) (fun _ _ => rfl)) (pe_op op_add (pv 2) pe_int) (nomark _))))))) (fun _ _ _ _ _ => (pv 5)))
      (pss_cons (ps_if (pt_cmpR (op_eqD hr.units) (pv 6) (pe_lst pa_nil) (nomark _)) (pss_one ps_break) pss_nil)
      (pss_cons (ps_set (i := 5) sc__law_left.nd rfl (Or.inl rfl) (pe_cl c__law_pick hr (by decide) rfl pass0 (pa_cons (pv 0) (pa_cons (pv 6) pa_nil))))
      (pss_one (ps_set (i := 3) sc__law_left.nd rfl (Or.inr rfl) (pe_op op_cat (pe_slice sl_list (pv 3) po_none (po_some (pe_op op_sub (pv 5) pe_int))) (pe_slice sl_list (pv 3) (po_some (pe_op op_add (pv 5) pe_int)) po_none))))))))
      (pss_one (ps_ret (pe_tup (pa_cons (pe_lc (own := [("k", 5)]) (g := (gName 5)) (tt := (tTest (tOp rEq (tOp (rIx K) (tVar 1) (tVar 5)) (tOp rAddI (tVar 2) (tC (.int 1)))))) (te := (tVar 5)) rfl sc__law_left.nd (pi_list (pv 3)) (blkOk_by (N := N__law_left) (sc := (defScope s__law_left)) (own := [("k", 5)]) (by decide +kernel)) (fun _ _ _ _ _ => (pg_name (i := 5) sc__law_left.nd rfl (Or.inl rfl))) (fun _ _ _ _ _ => (pts_one (pt_cmpR op_eq (pe_ix ix_seq (pv 1) (pv 5) (fun _ _ => rfl)) (pe_op op_add (pv 2) pe_int) (nomark _)))) (fun _ _ _ _ _ => (pv 5))) (pa_cons (pe_lc (own := [("k", 5)]) (g := (gName 5)) (tt := (tTest (tOp rEq (tOp (rIx K) (tVar 1) (tVar 5)) (tVar 2)))) (te := (tVar 5)) rfl sc__law_left.nd (pi_list (pv 3)) (blkOk_by (N := N__law_left) (sc := (defScope s__law_left)) (own := [("k", 5)]) (by decide +kernel)) (fun _ _ _ _ _ => (pg_name (i := 5) sc__law_left.nd rfl (Or.inl rfl))) (fun _ _ _ _ _ => (pts_one (pt_cmpR op_eq (pe_ix ix_seq (pv 1) (pv 5) (fun _ _ => rfl)) (pv 2) (nomark _)))) (fun _ _ _ _ _ => (pv 5))) pa_nil)))))))
/-! ### _law_with -/
abbrev s__law_with : Stmt := top 56
abbrev N__law_with : List Str := ["word", "index", "letter"]
theorem sc__law_with : FnScope N__law_with ["word", "index", "letter"] (defScope s__law_with) := ⟨rfl, rfl, rfl, by decide +kernel, rfl, by decide +kernel, by decide +kernel⟩
def t__law_with (K : PySem.W.Frag) (A : Ads) : TS :=
    (tRet (tOp (rCatA K) (tOp (rCatA K) (tCB (rTupleS K) (tCons (tSl (rSlL K) (tVar 0) tNoPart (tPart (tVar 1))) tNil)) (tTup (tCons (tVar 2) tNil))) (tCB (rTupleS K) (tCons (tSl (rSlL K) (tVar 0) (tPart (tOp rAddI (tVar 1) (tC (.int 1)))) tNoPart) tNil))))
theorem ok__law_with {P : Program} {w : World} {K : PySem.W.Frag} {mg : Str → Option Value} {base : Heap} {A : Ads} {sp : Sp} {f : Addr} {fd : FuncData} (F : Fun K "_law_with" "_law_with" s__law_with f fd) (T : Tx K mg A)
    (hn : ∀ vs H Q E, sp vs H Q E → vs.length = 3) (hp : ∀ vs H Q E, sp vs H Q E → t__law_with K A { nx := fun _ H' => Q .non H', rt := Q } (L2.start N__law_with vs) H) : FnOk P w K mg base CX0 1 f fd ["word", "index", "letter"] sp := by
  refine F.ok sc__law_with hn (fun cdv A0 outer s H vs Q E hr h => ⟨t__law_with K A, ?_, hp vs H Q E h⟩)
  exact (pss_one (ps_ret (pe_op op_catA (pe_op op_catA (pe_callTy call_tuple_of (by rfl) T.g_tuple bt_tuple (pa_cons (pe_slice sl_list (pv 0) po_none (po_some (pv 1))) pa_nil)) (pe_tup (pa_cons (pv 2) pa_nil))) (pe_callTy call_tuple_of (by rfl) T.g_tuple bt_tuple (pa_cons (pe_slice sl_list (pv 0) (po_some (pe_op op_add (pv 1) pe_int)) po_none) pa_nil)))))
/-! ### _law_word_right -/
abbrev s__law_word_right : Stmt := top 57
abbrev N__law_word_right : List Str := ["pen", "n", "word", "given", "i", "high", "low", "down", "up", "told", "counts", "is_high_v", "size", "letter"]
theorem sc__law_word_right : FnScope N__law_word_right ["pen", "n", "word"] (defScope s__law_word_right) := ⟨rfl, rfl, rfl, by decide +kernel, rfl, by decide +kernel, by decide +kernel⟩
def t__law_word_right (K : PySem.W.Frag) (A : Ads) (sp__law_listed : Sp) (sp__law_left : Sp) (sp_lower_word : Sp) (sp_raise_word : Sp) (sp__law_with : Sp) (sp_word_depths : Sp) (sp__law_is_ints : Sp) (sp_word_weight : Sp) (sp__law_is_truth : Sp) (sp_is_high_word : Sp) : TS :=
    (tSeq (tAsg (tCall sp__law_listed [] E0 (tCons (tVar 0) (tCons (tVar 2) tNil))) (gName 3))
    (tSeq (tFor (iRng1 (tCons (tVar 1) tNil)) (gName 4) (tSeq (tAsg (tCall sp__law_left [] E0 (tCons (tVar 0) (tCons (tVar 2) (tCons (tVar 4) tNil)))) (gTup K 2 (gCons (gName 5) (gCons (gName 6) gNil))))
    (tSeq (tPar 7 8 (tCons (tCall sp_lower_word [] E0 (tCons (tVar 1) (tCons (tVar 3) (tCons (tVar 4) tNil)))) (tCons (tCall sp_raise_word [] E0 (tCons (tVar 1) (tCons (tVar 3) (tCons (tVar 4) tNil)))) tNil)))
    (tSeq (tIfS (tTest (tOp (rNeD K) (tVar 7) (tIf (tTest (tOp (rEqD K) (tVar 6) (tLst tNil))) (tC .non) (tCall sp__law_with [] E0 (tCons (tVar 2) (tCons (tOp (rIx K) (tVar 6) (tC (.int 0))) (tCons (tOp rAddI (tVar 4) (tC (.int 1))) tNil))))))) (tRet (tC (.bl false))) tNext)
    (tSeq (tIfS (tTest (tOp (rNeD K) (tVar 8) (tIf (tTest (tOp (rEqD K) (tVar 5) (tLst tNil))) (tC .non) (tCall sp__law_with [] E0 (tCons (tVar 2) (tCons (tOp (rIx K) (tVar 5) (tUn rNegI (tC (.int 1)))) (tCons (tVar 4) tNil))))))) (tRet (tC (.bl false))) tNext)
    (tSeq (tAsg (tCall sp_word_depths [] E0 (tCons (tVar 1) (tCons (tVar 3) (tCons (tVar 4) tNil)))) (gName 9))
    (tSeq (tIfS (tOr (tNot (tB (tCall sp__law_is_ints [] E0 (tCons (tVar 9) (tCons (tC (.int 41)) tNil))))) (tTest (tOp (rNeD K) (tVar 9) (tTup (tCons (tCB (rLenS K) (tCons (tVar 6) tNil)) (tCons (tCB (rLenS K) (tCons (tVar 5) tNil)) tNil)))))) (tRet (tC (.bl false))) tNext)
    (tSeq (tIfS (tAnd (tTest (tOp rNotNn (tVar 7) (tC .non))) (tTest (tOp (rNeD K) (tCall sp_raise_word [] E0 (tCons (tVar 1) (tCons (tVar 7) (tCons (tVar 4) tNil)))) (tCB (rTupleS K) (tCons (tVar 2) tNil))))) (tRet (tC (.bl false))) tNext)
    (tIfS (tAnd (tTest (tOp rNotNn (tVar 8) (tC .non))) (tTest (tOp (rNeD K) (tCall sp_lower_word [] E0 (tCons (tVar 1) (tCons (tVar 8) (tCons (tVar 4) tNil)))) (tCB (rTupleS K) (tCons (tVar 2) tNil))))) (tRet (tC (.bl false))) tNext)))))))))
    (tSeq (tAsg (tLc (iRng1 (tCons (tOp rAddI (tVar 1) (tC (.int 1))) tNil)) (gName 4) tYes (tCB (rLenS K) (tCons (tLc (iList K (tVar 2)) (gName 13) (tTest (tOp rEq (tVar 13) (tVar 4))) (tVar 13) [13]) tNil)) [4]) (gName 10))
    (tSeq (tAsg (tCall sp_word_weight [] E0 (tCons (tVar 1) (tCons (tVar 3) tNil))) (gName 9))
    (tSeq (tIfS (tOr (tNot (tB (tCB (rIsi K) (tCons (tVar 9) (tCons (tC (.ty "tuple")) tNil))))) (tTest (tOp (rNeD K) (tCB (rListS K) (tCons (tVar 9) tNil)) (tLc (iRng1 (tCons (tVar 1) tNil)) (gName 4) tYes (tOp rSubI (tOp (rIx K) (tVar 10) (tVar 4)) (tOp (rIx K) (tVar 10) (tOp rAddI (tVar 4) (tC (.int 1))))) [4])))) (tRet (tC (.bl false))) tNext)
    (tSeq (tAsg (tC (.bl true)) (gName 11))
    (tSeq (tFor (iRng1 (tCons (tOp rAddI (tCB (rLenS K) (tCons (tVar 2) tNil)) (tC (.int 1))) tNil)) (gName 12) (tFor (iRng1 (tCons (tVar 1) tNil)) (gName 4) (tIfS (tTest (tOp rLtI (tBM K "list" (rCntI K) (tSl (rSlL K) (tVar 2) tNoPart (tPart (tVar 12))) (tCons (tVar 4) tNil)) (tBM K "list" (rCntI K) (tSl (rSlL K) (tVar 2) tNoPart (tPart (tVar 12))) (tCons (tOp rAddI (tVar 4) (tC (.int 1))) tNil)))) (tAsg (tC (.bl false)) (gName 11)) tNext)))
    (tRet (tAndV (tCall sp__law_is_truth [] E0 (tCons (tCall sp_is_high_word [] E0 (tCons (tVar 1) (tCons (tVar 3) tNil))) (tCons (tVar 11) tNil))) (tOp (rEqD K) (tCB (rListS K) (tCons (tVar 3) tNil)) (tVar 2)))))))))))
theorem ok__law_word_right {P : Program} {w : World} {K : PySem.W.Frag} {mg : Str → Option Value} {base : Heap} {A : Ads} {sp__law_listed : Sp} {sp__law_left : Sp} {sp_lower_word : Sp} {sp_raise_word : Sp} {sp__law_with : Sp} {sp_word_depths : Sp} {sp__law_is_ints : Sp} {sp_word_weight : Sp} {sp__law_is_truth : Sp} {sp_is_high_word : Sp} {sp : Sp} {f : Addr} {fd : FuncData} (F : Fun K "_law_word_right" "_law_word_right" s__law_word_right f fd) (T : Tx K mg A) (c__law_listed : Cl P w K mg base CX0 2 "_law_listed" ["pen", "row"] sp__law_listed) (c__law_left : Cl P w K mg base CX0 3 "_law_left" ["pen", "word", "i"] sp__law_left) (c_lower_word : Cl P w K mg base (L2.CX P w) 6 "lower_word" ["n", "word", "i"] sp_lower_word) (c_raise_word : Cl P w K mg base (L2.CX P w) 6 "raise_word" ["n", "word", "i"] sp_raise_word) (c__law_with : Cl P w K mg base CX0 1 "_law_with" ["word", "index", "letter"] sp__law_with) (c_word_depths : Cl P w K mg base (L2.CX P w) 6 "word_depths" ["n", "word", "i"] sp_word_depths) (c__law_is_ints : Cl P w K mg base CX0 2 "_law_is_ints" ["value", "many"] sp__law_is_ints) (c_word_weight : Cl P w K mg base (L2.CX P w) 5 "word_weight" ["n", "word"] sp_word_weight) (c__law_is_truth : Cl P w K mg base CX0 1 "_law_is_truth" ["told", "due"] sp__law_is_truth) (c_is_high_word : Cl P w K mg base (L2.CX P w) 5 "is_high_word" ["n", "word"] sp_is_high_word)
    (hn : ∀ vs H Q E, sp vs H Q E → vs.length = 3) (hp : ∀ vs H Q E, sp vs H Q E → t__law_word_right K A sp__law_listed sp__law_left sp_lower_word sp_raise_word sp__law_with sp_word_depths sp__law_is_ints sp_word_weight sp__law_is_truth sp_is_high_word { nx := fun _ H' => Q .non H', rt := Q } (L2.start N__law_word_right vs) H) : FnOk P w K mg base CX0 7 f fd ["pen", "n", "word"] sp := by
  refine F.ok sc__law_word_right hn (fun cdv A0 outer s H vs Q E hr h => ⟨t__law_word_right K A sp__law_listed sp__law_left sp_lower_word sp_raise_word sp__law_with sp_word_depths sp__law_is_ints sp_word_weight sp__law_is_truth sp_is_high_word, ?_, hp vs H Q E h⟩)
  exact (pss_cons (ps_set (i := 3) sc__law_word_right.nd rfl (Or.inl rfl) (pe_cl c__law_listed hr (by decide) rfl pass0 (pa_cons (pv 0) (pa_cons (pv 2) pa_nil))))
      (pss_cons (ps_for PassesOwn.never rfl (pi_range1 (by rfl) T.g_range (pa_cons (pv 1) pa_nil)) (pg_name (i := 4) sc__law_word_right.nd rfl (Or.inl rfl)) (pss_cons (ps_asg (pe_cl c__law_left hr (by decide) rfl pass0 (pa_cons (pv 0) (pa_cons (pv 2) (pa_cons (pv 4) pa_nil)))) (pg_tup rfl (pgs_cons (pg_name (i := 5) sc__law_word_right.nd rfl (Or.inl rfl)) (pgs_cons (pg_name (i := 6) sc__law_word_right.nd rfl (Or.inl rfl)) pgs_nil))))
      (pss_cons (ps_par (i := 7) (j := 8) (by rfl) sc__law_word_right.nd rfl rfl (by decide) rfl rfl (pa_cons (pe_cl c_lower_word hr (by decide) rfl passL (pa_cons (pv 1) (pa_cons (pv 3) (pa_cons (pv 4) pa_nil)))) (pa_cons (pe_cl c_raise_word hr (by decide) rfl passL (pa_cons (pv 1) (pa_cons (pv 3) (pa_cons (pv 4) pa_nil)))) pa_nil)) (by rfl))
      (pss_cons (ps_if (pt_cmpR (op_neD hr.units) (pv 7) (pe_ifExp (pt_cmpR (op_eqD hr.units) (pv 6) (pe_lst pa_nil) (nomark _)) pe_non (pe_cl c__law_with hr (by decide) rfl pass0 (pa_cons (pv 2) (pa_cons (pe_ix ix_seq (pv 6) pe_int (fun _ _ => rfl)) (pa_cons (pe_op op_add (pv 4) pe_int) pa_nil))))) (nomark _)) (pss_one (ps_ret pe_bl)) pss_nil)
      (pss_cons (ps_if (pt_cmpR (op_neD hr.units) (pv 8) (pe_ifExp (pt_cmpR (op_eqD hr.units) (pv 5) (pe_lst pa_nil) (nomark _)) pe_non (pe_cl c__law_with hr (by decide) rfl pass0 (pa_cons (pv 2) (pa_cons (pe_ix ix_seq (pv 5) (pe_un un_neg pe_int) (fun _ _ => rfl)) (pa_cons (pv 4) pa_nil))))) (nomark _)) (pss_one (ps_ret pe_bl)) pss_nil)
      (pss_cons (ps_set (i := 9) sc__law_word_right.nd rfl (Or.inl rfl) (pe_cl c_word_depths hr (by decide) rfl passL (pa_cons (pv 1) (pa_cons (pv 3) (pa_cons (pv 4) pa_nil)))))
      (pss_cons (ps_if (PW.pt (pw_or (pt_not (pt_val (pe_cl c__law_is_ints hr (by decide) rfl pass0 (pa_cons (pv 9) (pa_cons pe_int pa_nil))))) (pw_or1 (pt_cmpR (op_neD hr.units) (pv 9) (pe_tup (pa_cons (pe_callB call_len_seq (by rfl) T.g_len bt_len (pa_cons (pv 6) pa_nil)) (pa_cons (pe_callB call_len_seq (by rfl) T.g_len bt_len (pa_cons (pv 5) pa_nil)) pa_nil))) (nomark _))))) (pss_one (ps_ret pe_bl)) pss_nil)
      (pss_cons (ps_if (PW.pt (pw_and (pt_cmpR op_notN (pv 7) pe_non (nomark _)) (pw_and1 (pt_cmpR (op_neD hr.units) (pe_cl c_raise_word hr (by decide) rfl passL (pa_cons (pv 1) (pa_cons (pv 7) (pa_cons (pv 4) pa_nil)))) (pe_callTy call_tuple_of (by rfl) T.g_tuple bt_tuple (pa_cons (pv 2) pa_nil)) (nomark _))))) (pss_one (ps_ret pe_bl)) pss_nil)
      (pss_one (ps_if (PW.pt (pw_and (pt_cmpR op_notN (pv 8) pe_non (nomark _)) (pw_and1 (pt_cmpR (op_neD hr.units) (pe_cl c_lower_word hr (by decide) rfl passL (pa_cons (pv 1) (pa_cons (pv 8) (pa_cons (pv 4) pa_nil)))) (pe_callTy call_tuple_of (by rfl) T.g_tuple bt_tuple (pa_cons (pv 2) pa_nil)) (nomark _))))) (pss_one (ps_ret pe_bl)) pss_nil))))))))))
      (pss_cons (ps_set (i := 10) sc__law_word_right.nd rfl (Or.inr rfl) (pe_lc (own := [("i", 4)]) (g := (gName 4)) (tt := tYes) (te := (tCB (rLenS K) (tCons (tLc (iList K (tVar 2)) (gName 13) (tTest (tOp rEq (tVar 13) (tVar 4))) (tVar 13) [13]) tNil))) rfl sc__law_word_right.nd (pi_range1 (by rfl) T.g_range (pa_cons (pe_op op_add (pv 1) pe_int) pa_nil)) (blkOk_by (N := N__law_word_right) (sc := (defScope s__law_word_right)) (own := [("i", 4)]) (by decide +kernel)) (fun _ _ _ _ _ => (pg_name (i := 4) sc__law_word_right.nd rfl (Or.inr rfl))) (fun _ _ _ _ _ => pts_nil) (fun _ _ _ _ _ => (pe_callB call_len_seq (by rfl) T.g_len bt_len (pa_cons (pe_lc (own := [("letter", 13)]) (g := (gName 13)) (tt := (tTest (tOp rEq (tVar 13) (tVar 4)))) (te := (tVar 13)) rfl sc__law_word_right.nd (pi_list (pv 2)) (blkOk_by (N := N__law_word_right) (sc := ({ kind := .function, names := [(PySem.Str.ofString ".0", .«local»), (PySem.Str.ofString "i", .cell), (PySem.Str.ofString "len", .globalImplicit), (PySem.Str.ofString "word", .cell)], isGenerator := false, isCoroutine := false, more := [] } : Scope)) (own := [("letter", 13)]) (by decide +kernel)) (fun _ _ _ _ _ => (pg_name (i := 13) sc__law_word_right.nd rfl (Or.inl rfl))) (fun _ _ _ _ _ => (pts_one (pt_cmpR op_eq (pv 13) (pv 4) (nomark _)))) (fun _ _ _ _ _ => (pv 13))) pa_nil)))))
      (pss_cons (ps_set (i := 9) sc__law_word_right.nd rfl (Or.inl rfl) (pe_cl c_word_weight hr (by decide) rfl passL (pa_cons (pv 1) (pa_cons (pv 3) pa_nil))))
      (pss_cons (ps_if (PW.pt (pw_or (pt_not (pt_val (pe_callB call_isi (by rfl) T.g_isinstance bt_isinstance (pa_cons (pv 9) (pa_cons (pe_bltn (by rfl) T.g_tuple bt_tuple rfl) pa_nil))))) (pw_or1 (pt_cmpR (op_neD hr.units) (pe_callTy call_list_of (by rfl) T.g_list bt_list (pa_cons (pv 9) pa_nil)) (pe_lc (own := [("i", 4)]) (g := (gName 4)) (tt := tYes) (te := (tOp rSubI (tOp (rIx K) (tVar 10) (tVar 4)) (tOp (rIx K) (tVar 10) (tOp rAddI (tVar 4) (tC (.int 1)))))) rfl sc__law_word_right.nd (pi_range1 (by rfl) T.g_range (pa_cons (pv 1) pa_nil)) (blkOk_by (N := N__law_word_right) (sc := (defScope s__law_word_right)) (own := [("i", 4)]) (by decide +kernel)) (fun _ _ _ _ _ => (pg_name (i := 4) sc__law_word_right.nd rfl (Or.inl rfl))) (fun _ _ _ _ _ => pts_nil) (fun _ _ _ _ _ => (pe_op op_sub (pe_ix ix_seq (pv 10) (pv 4) (fun _ _ => rfl)) (pe_ix ix_seq (pv 10) (pe_op op_add (pv 4) pe_int) (fun _ _ => rfl))))) (nomark _))))) (pss_one (ps_ret pe_bl)) pss_nil)
      (pss_cons (ps_set (i := 11) sc__law_word_right.nd rfl (Or.inl rfl) pe_bl)
      (pss_cons (ps_for PassesOwn.never rfl (pi_range1 (by rfl) T.g_range (pa_cons (pe_op op_add (pe_callB call_len_seq (by rfl) T.g_len bt_len (pa_cons (pv 2) pa_nil)) pe_int) pa_nil)) (pg_name (i := 12) sc__law_word_right.nd rfl (Or.inl rfl)) (pss_one (ps_for PassesOwn.never rfl (pi_range1 (by rfl) T.g_range (pa_cons (pv 1) pa_nil)) (pg_name (i := 4) sc__law_word_right.nd rfl (Or.inl rfl)) (pss_one (ps_if (pt_cmpR op_lt (pe_bm PySem.F.plainAttrs_list PySem.F.slot_list_count PySem.F.type_list_count mt_lcount (pe_slice sl_list (pv 2) po_none (po_some (pv 12))) (pa_cons (pv 4) pa_nil)) (pe_bm PySem.F.plainAttrs_list PySem.F.slot_list_count PySem.F.type_list_count mt_lcount (pe_slice sl_list (pv 2) po_none (po_some (pv 12))) (pa_cons (pe_op op_add (pv 4) pe_int) pa_nil)) (nomark _)) (pss_one (ps_set (i := 11) sc__law_word_right.nd rfl (Or.inl rfl) pe_bl)) pss_nil)))))
      (pss_one (ps_ret (pe_and (pe_cl c__law_is_truth hr (by decide) rfl pass0 (pa_cons (pe_cl c_is_high_word hr (by decide) rfl passL (pa_cons (pv 1) (pa_cons (pv 3) pa_nil))) (pa_cons (pv 11) pa_nil))) (pe_one (pe_cmpR (op_eqD hr.units) (pe_callTy call_list_of (by rfl) T.g_list bt_list (pa_cons (pv 3) pa_nil)) (pv 2) (nomark _)))))))))))))
/-! ### _law_joined_right -/
abbrev s__law_joined_right : Stmt := top 58
abbrev N__law_joined_right : List Str := ["pen", "n", "i", "p", "letter", "word", "web", "lap", "told", "end", "place", "item"]
theorem sc__law_joined_right : FnScope N__law_joined_right ["pen", "n"] (defScope s__law_joined_right) := ⟨rfl, rfl, rfl, by decide +kernel, rfl, by decide +kernel, by decide +kernel⟩
def t__law_joined_right (K : PySem.W.Frag) (A : Ads) (sp_Web_init : Sp) (sp__law_draw : Sp) (sp_joined : Sp) (sp_lower_word : Sp) : TS :=
    (tSeq (tAsg (tMake A.c_Web sp_Web_init [] E0 (tCons (tLc (iRng1 (tCons (tVar 1) tNil)) (gName 2) tYes (tLc (iRng1 (tCons (tOp rAddI (tVar 1) (tC (.int 1))) tNil)) (gName 3) tYes (tIf (tTest (tOp rEq (tVar 3) (tVar 2))) (tOp rAddI (tVar 3) (tC (.int 1))) (tC .non)) [3]) [2]) tNil)) (gName 4))
    (tSeq (tPar 5 6 (tCons (tLst (tCons (tCall sp__law_draw [] E0 (tCons (tVar 0) (tCons (tOp rAddI (tVar 1) (tC (.int 1))) tNil))) tNil)) (tCons (tVar 4) tNil)))
    (tSeq (tAsg (tOp (rIx K) (tVar 5) (tC (.int 0))) (gName 3))
    (tSeq (tFor (iRng1 (tCons (tC (.int 2)) tNil)) (gName 7) (tIfS (tTest (tOp rLeI (tOp rMulI (tFld K (tVar 6) "many") (tOp rAddI (tVar 1) (tC (.int 1)))) (tC (.int 220)))) (tSeq (tAsg (tCall sp_joined [] E0 (tCons (tVar 6) (tCons (tVar 4) tNil))) (gName 6))
    (tSeq (tDrop (tBM K "list" rAppend (tVar 5) (tCons (tCall sp__law_draw [] E0 (tCons (tVar 0) (tCons (tOp rAddI (tVar 1) (tC (.int 1))) tNil))) tNil)))
    (tAsg (tOp rAddI (tOp rMulI (tVar 3) (tOp rAddI (tVar 1) (tC (.int 1)))) (tOp (rIx K) (tVar 5) (tUn rNegI (tC (.int 1))))) (gName 3)))) tNext))
    (tSeq (tFor (iRng1 (tCons (tVar 1) tNil)) (gName 2) (tSeq (tPar 8 9 (tCons (tCall sp_lower_word [] E0 (tCons (tVar 1) (tCons (tVar 5) (tCons (tVar 2) tNil)))) (tCons (tOp (rIx K) (tOp (rIx K) (tFld K (tVar 6) "arrows") (tVar 2)) (tVar 3)) tNil)))
    (tSeq (tAsg (tC .non) (gName 10))
    (tSeq (tIfS (tTest (tOp rNotNn (tVar 8) (tC .non))) (tSeq (tAsg (tC (.int 0)) (gName 10))
    (tFor (iTup K (tVar 8)) (gName 11) (tAsg (tOp rAddI (tOp rMulI (tVar 10) (tOp rAddI (tVar 1) (tC (.int 1)))) (tVar 11)) (gName 10)))) tNext)
    (tIfS (tTest (tOp rNe (tVar 10) (tVar 9))) (tRet (tC (.bl false))) tNext)))))
    (tRet (tC (.bl true))))))))
theorem ok__law_joined_right {P : Program} {w : World} {K : PySem.W.Frag} {mg : Str → Option Value} {base : Heap} {A : Ads} {sp_Web_init : Sp} {sp__law_draw : Sp} {sp_joined : Sp} {sp_lower_word : Sp} {sp : Sp} {f : Addr} {fd : FuncData} (F : Fun K "_law_joined_right" "_law_joined_right" s__law_joined_right f fd) (T : Tx K mg A) (c_Web : ClM P w K mg base (L2.CX P w) A.c_Web 4 "Web" ["self", "arrows"] sp_Web_init) (c__law_draw : Cl P w K mg base CX0 1 "_law_draw" ["pen", "many"] sp__law_draw) (c_joined : Cl P w K mg base (L2.CX P w) 6 "joined" ["one", "other"] sp_joined) (c_lower_word : Cl P w K mg base (L2.CX P w) 6 "lower_word" ["n", "word", "i"] sp_lower_word)
    (hn : ∀ vs H Q E, sp vs H Q E → vs.length = 2) (hp : ∀ vs H Q E, sp vs H Q E → t__law_joined_right K A sp_Web_init sp__law_draw sp_joined sp_lower_word { nx := fun _ H' => Q .non H', rt := Q } (L2.start N__law_joined_right vs) H) : FnOk P w K mg base CX0 7 f fd ["pen", "n"] sp := by
  refine F.ok sc__law_joined_right hn (fun cdv A0 outer s H vs Q E hr h => ⟨t__law_joined_right K A sp_Web_init sp__law_draw sp_joined sp_lower_word, ?_, hp vs H Q E h⟩)
  exact (pss_cons (ps_set (i := 4) sc__law_joined_right.nd rfl (Or.inl rfl) (pe_mkc c_Web hr (by decide) rfl passL (pa_cons (pe_lc (own := [("i", 2)]) (g := (gName 2)) (tt := tYes) (te := (tLc (iRng1 (tCons (tOp rAddI (tVar 1) (tC (.int 1))) tNil)) (gName 3) tYes (tIf (tTest (tOp rEq (tVar 3) (tVar 2))) (tOp rAddI (tVar 3) (tC (.int 1))) (tC .non)) [3])) rfl sc__law_joined_right.nd (pi_range1 (by rfl) T.g_range (pa_cons (pv 1) pa_nil)) (blkOk_by (N := N__law_joined_right) (sc := (defScope s__law_joined_right)) (own := [("i", 2)]) (by decide +kernel)) (fun _ _ _ _ _ => (pg_name (i := 2) sc__law_joined_right.nd rfl (Or.inr rfl))) (fun _ _ _ _ _ => pts_nil) (fun _ _ _ _ _ => (pe_lc (own := [("p", 3)]) (g := (gName 3)) (tt := tYes) (te := (tIf (tTest (tOp rEq (tVar 3) (tVar 2))) (tOp rAddI (tVar 3) (tC (.int 1))) (tC .non))) rfl sc__law_joined_right.nd (pi_range1 (by rfl) T.g_range (pa_cons (pe_op op_add (pv 1) pe_int) pa_nil)) (blkOk_by (N := N__law_joined_right) (sc := ({ kind := .function, names := [(PySem.Str.ofString ".0", .«local»), (PySem.Str.ofString "i", .cell), (PySem.Str.ofString "range", .globalImplicit), (PySem.Str.ofString "n", .cell)], isGenerator := false, isCoroutine := false, more := [] } : Scope)) (own := [("p", 3)]) (by decide +kernel)) (fun _ _ _ _ _ => (pg_name (i := 3) sc__law_joined_right.nd rfl (Or.inl rfl))) (fun _ _ _ _ _ => pts_nil) (fun _ _ _ _ _ => (pe_ifExp (pt_cmpR op_eq (pv 3) (pv 2) (nomark _)) (pe_op op_add (pv 3) pe_int) pe_non))))) pa_nil)))
      (pss_cons (ps_par (i := 5) (j := 6) (by rfl) sc__law_joined_right.nd rfl rfl (by decide) rfl rfl (pa_cons (pe_lst (pa_cons (pe_cl c__law_draw hr (by decide) rfl pass0 (pa_cons (pv 0) (pa_cons (pe_op op_add (pv 1) pe_int) pa_nil))) pa_nil)) (pa_cons (pv 4) pa_nil)) (by rfl))
      (pss_cons (ps_set (i := 3) sc__law_joined_right.nd rfl (Or.inl rfl) (pe_ix ix_seq (pv 5) pe_int (fun _ _ => rfl)))
      (pss_cons (ps_for PassesOwn.never rfl (pi_range1 (by rfl) T.g_range (pa_cons pe_int pa_nil)) (pg_name (i := 7) sc__law_joined_right.nd rfl (Or.inl rfl)) (pss_one (ps_if (pt_cmpR op_le (pe_op op_mul (pe_fld (pv 6) rfl) (pe_op op_add (pv 1) pe_int)) pe_int (nomark _)) (pss_cons (ps_set (i := 6) sc__law_joined_right.nd rfl (Or.inl rfl) (pe_cl c_joined hr (by decide) rfl passL (pa_cons (pv 6) (pa_cons (pv 4) pa_nil))))
      (pss_cons (ps_expr (pe_bm PySem.F.plainAttrs_list PySem.F.slot_list_append PySem.F.type_list_append mt_append (pv 5) (pa_cons (pe_cl c__law_draw hr (by decide) rfl pass0 (pa_cons (pv 0) (pa_cons (pe_op op_add (pv 1) pe_int) pa_nil))) pa_nil)))
      (pss_one (ps_set (i := 3) sc__law_joined_right.nd rfl (Or.inl rfl) (pe_op op_add (pe_op op_mul (pv 3) (pe_op op_add (pv 1) pe_int)) (pe_ix ix_seq (pv 5) (pe_un un_neg pe_int) (fun _ _ => rfl))))))) pss_nil)))
      (pss_cons (ps_for PassesOwn.never rfl (pi_range1 (by rfl) T.g_range (pa_cons (pv 1) pa_nil)) (pg_name (i := 2) sc__law_joined_right.nd rfl (Or.inl rfl)) (pss_cons (ps_par (i := 8) (j := 9) (by rfl) sc__law_joined_right.nd rfl rfl (by decide) rfl rfl (pa_cons (pe_cl c_lower_word hr (by decide) rfl passL (pa_cons (pv 1) (pa_cons (pv 5) (pa_cons (pv 2) pa_nil)))) (pa_cons (pe_ix ix_seq (pe_ix ix_seq (pe_fld (pv 6) rfl) (pv 2) (fun _ _ => rfl)) (pv 3) (fun _ _ => rfl)) pa_nil)) (by rfl))
      (pss_cons (ps_set (i := 10) sc__law_joined_right.nd rfl (Or.inl rfl) pe_non)
      (pss_cons (ps_if (pt_cmpR op_notN (pv 8) pe_non (nomark _)) (pss_cons (ps_set (i := 10) sc__law_joined_right.nd rfl (Or.inl rfl) pe_int)
      (pss_one (ps_for PassesOwn.never rfl (pi_tup (pv 8)) (pg_name (i := 11) sc__law_joined_right.nd rfl (Or.inl rfl)) (pss_one (ps_set (i := 10) sc__law_joined_right.nd rfl (Or.inl rfl) (pe_op op_add (pe_op op_mul (pv 10) (pe_op op_add (pv 1) pe_int)) (pv 11))))))) pss_nil)
      (pss_one (ps_if (pt_cmpR op_ne (pv 10) (pv 9) (nomark _)) (pss_one (ps_ret pe_bl)) pss_nil))))))
      (pss_one (ps_ret pe_bl)))))))
end P75
set_option Elab.async false
set_option linter.all false
set_option maxRecDepth 100000
set_option maxHeartbeats 4000000
namespace P75
open PySem L2 Evl DL
local macro_rules | `(tactic| walk_at "wx") => `(tactic| first | (refine wpe_var rfl rfl ?_) | (refine wpe_int ?_) | (refine wpe_str ?_) | (refine wpe_non ?_) | (refine wpe_bl ?_) | (refine wpe_ty ?_) | (refine wpe_ref ?_) | with_reducible refine wpe_add ?_ | with_reducible refine wpe_sub ?_ | with_reducible refine wpe_mul ?_ | with_reducible refine wpe_mod ?_ | with_reducible refine wpe_fdiv ?_ | with_reducible refine wpe_pow ?_ | with_reducible refine wpe_lt ?_ | with_reducible refine wpe_le ?_ | with_reducible refine wpe_gt ?_ | with_reducible refine wpe_ge ?_ | with_reducible refine wpe_eqS ?_ | with_reducible refine wpe_neS ?_ | with_reducible refine wpe_neg ?_ | with_reducible refine wpe_chainLeLt ?_ | with_reducible refine wpe_chainLeLe ?_ | with_reducible refine wpe_eqD ?_ | with_reducible refine wpe_neD ?_ | with_reducible refine wpe_isNn ?_ | with_reducible refine wpe_notNn ?_ | with_reducible refine wpe_inI ?_ | with_reducible refine wpe_if ?_ | with_reducible refine wpe_andV ?_ | with_reducible refine wpe_orV ?_ | with_reducible refine wpe_notV ?_ | with_reducible refine wpe_ix ?_ | with_reducible refine wpe_slL ?_ | with_reducible refine wpe_slA ?_ | with_reducible refine wpe_cat ?_ | with_reducible refine wpe_catA ?_ | with_reducible refine wpe_rep ?_ | with_reducible refine wpe_isiR ?_ | (refine wpe_isiI (by simp) ?_) | with_reducible refine wpe_len ?_ | with_reducible refine wpe_listOf ?_ | with_reducible refine wpe_tupleOf ?_ | with_reducible refine wpe_all ?_ | with_reducible refine wpe_any ?_ | with_reducible refine wpe_sum ?_ | with_reducible refine wpe_max ?_ | with_reducible refine wpe_sortedI ?_ | with_reducible refine wpe_intOf ?_ | with_reducible refine wpe_isi ?_ | with_reducible refine wpe_count ?_ | with_reducible refine wpe_pop ?_ | with_reducible refine wpe_tup ?_ | with_reducible refine wpe_lst ?_ | (refine wpa_nil ?_) | with_reducible refine wpa_cons ?_ | (refine wpo_none ?_) | with_reducible refine wpo_some ?_ | with_reducible refine wpt_test ?_ | with_reducible refine wpt_B ?_ | with_reducible refine wpt_and ?_ | with_reducible refine wpt_or ?_ | with_reducible refine wpt_not ?_ | (refine wpt_yes ?_) | with_reducible refine wps_seq ?_ | with_reducible refine wps_set ?_ | with_reducible refine wps_ret ?_ | with_reducible refine wps_if ?_ | with_reducible refine wps_par ?_ | with_reducible refine wps_app ?_ | (refine wps_next ?_) | (refine wps_brk ?_) | (refine wps_cont ?_) | (refine wps_retN ?_) | with_reducible refine wps_drop ?_ | with_reducible refine wps_asg ?_)
local macro_rules | `(tactic| walk_at "w") => `(tactic| (walk_at "wx"; repeat (walk_at "wx")))
local macro_rules | `(tactic| walk_at "gx") => `(tactic| first | (walk_at "wx") | with_reducible refine wpe_cA1 ?_ | with_reducible refine wpe_cA2 ?_ | with_reducible refine wpe_cA3 ?_ | with_reducible refine wpe_cB1 ?_ | with_reducible refine wpe_cB2 ?_ | with_reducible refine wpe_cB3 ?_ | with_reducible refine wpe_cB4 ?_ | with_reducible refine wpe_cB5 ?_ | (refine ⟨_, rfl, ?_⟩) | (refine ⟨_, _, rfl, rfl, ?_⟩) | (refine ⟨_, _, _, rfl, rfl, rfl, ?_⟩) | (refine ⟨_, _, _, _, rfl, rfl, rfl, rfl, ?_⟩) | (refine ⟨_, _, _, _, _, rfl, rfl, rfl, rfl, rfl, ?_⟩) | (refine ⟨_, _, _, _, rfl, rfl, rfl, rfl, rfl, ?_⟩) | (refine ⟨_, _, rfl, ?_⟩))
local macro_rules | `(tactic| walk_at "g") => `(tactic| (walk_at "gx"; repeat (walk_at "gx")))
/-! ### data -/
def isInt : PyData → Bool
  | .int _ => true
  | _ => false
theorem isInt_of {d : PyData} (h : isInt d = true) : ∃ n, d = .int n := by
  cases d with
  | int n => exact ⟨n, rfl⟩
  | _ => cases h
def rowOf : PyData → Option (List PyData)
  | .list ds => some ds
  | .tuple ds => some ds
  | _ => none
def isPt (m : Int) : PyData → Bool
  | .int v => decide (0 ≤ v) && decide (v < m)
  | _ => false
def W_is_integer : Wf := fun ds Φ _ => ∃ d, ds = [d] ∧ ty d ∧ Φ (.bool (isInt d))
theorem w_is_integer {C : Cn} {A : Ads} {ds : List PyData} {Φ : PyData → Prop} {Ψ : Er → Prop} (h : W_is_integer ds Φ Ψ) : wps C (t_is_integer C.K A) (start0 (ds.map .d) 1 0) (DD Φ) := by
  obtain ⟨d, rfl, ht, h⟩ := h
  unfold t_is_integer
  walk_at "w"
  refine ⟨_, rfl, ht, _, rfl, fun e => ?_, fun e => ⟨_, rfl, ?_⟩⟩
  · walk_at "w"
    refine ⟨_, rfl, ht, _, rfl, _, rfl, ?_⟩
    cases d <;> first | exact h | (simp [tyS, kT] at e)
  · cases d <;> first | exact h | (simp [tyS, kT] at e)
def W_is_row : Wf := fun ds Φ _ => ∃ d, ds = [d] ∧ ty d ∧ Φ (.bool (rowOf d).isSome)
theorem w_is_row {C : Cn} {A : Ads} {ds : List PyData} {Φ : PyData → Prop} {Ψ : Er → Prop} (h : W_is_row ds Φ Ψ) : wps C (t_is_row C.K A) (start0 (ds.map .d) 1 0) (DD Φ) := by
  obtain ⟨d, rfl, ht, h⟩ := h
  unfold t_is_row
  walk_at "w"
  refine ⟨_, rfl, ht, _, rfl, ?_⟩
  cases d <;> exact h
def W_is_point : Wf := fun ds Φ _ => ∃ m d, ds = [.int m, d] ∧ ty d ∧ Φ (.bool (isPt m d))
theorem w_is_point {C : Cn} {A : Ads} {ds : List PyData} {Φ : PyData → Prop} {Ψ : Er → Prop} (h : W_is_point ds Φ Ψ) : wps C (t_is_point C.K A (spP C.K C.cl W_is_integer)) (start0 (ds.map .d) 2 0) (DD Φ) := by
  obtain ⟨m, d, rfl, ht, h⟩ := h
  unfold t_is_point
  walk_at "w"
  refine wpe_call0 ?_
  walk_at "w"
  refine ⟨[d], rfl, d, rfl, ht, _, rfl, fun e => ?_, fun e => ⟨_, rfl, ?_⟩⟩
  · obtain ⟨v, rfl⟩ := isInt_of e
    walk_at "w"
    refine ⟨_, _, rfl, rfl, fun h0 => ?_, fun h0 => ⟨_, rfl, ?_⟩⟩
    · walk_at "w"
      refine ⟨_, rfl, _, rfl, ?_⟩
      have : isPt m (.int v) = decide (v < m) := by simp [isPt, h0]
      rw [← this]
      exact h
    · have : isPt m (.int v) = false := by simp [isPt, h0]
      rw [← this]
      exact h
  · have : isPt m d = false := by cases d <;> first | rfl | simp [isInt] at e
    rw [← this]
    exact h
/-! ### the checks -/
def clA (A : Ads) (x : Str) : Option Addr := if x = "BadNumber" then some A.c_BadNumber else if x = "BadLetters" then some A.c_BadLetters else if x = "BadColour" then some A.c_BadColour else if x = "BadItem" then some A.c_BadItem else
  if x = "TooMany" then some A.c_TooMany else if x = "BadWeb" then some A.c_BadWeb else if x = "Web" then some A.c_Web else none
theorem cl_num (A : Ads) : clA A "BadNumber" = some A.c_BadNumber := if_pos rfl
theorem cl_let (A : Ads) : clA A "BadLetters" = some A.c_BadLetters := by
  unfold clA
  rw [if_neg (by decide +kernel), if_pos rfl]
theorem cl_col (A : Ads) : clA A "BadColour" = some A.c_BadColour := by
  unfold clA
  rw [if_neg (by decide +kernel), if_neg (by decide +kernel), if_pos rfl]
abbrev X1 (A : Ads) : Sp := spXI A.c_BadNumber ["what", "value"]
abbrev X2 (A : Ads) : Sp := spXI A.c_BadLetters ["index"]
abbrev X3 (A : Ads) : Sp := spXI A.c_BadColour ["value"]
def eNum (x : PyData) : Er := erOf "BadNumber" ["what", "value"] [.str "n", x]
def eLet (x : PyData) : Er := erOf "BadLetters" ["index"] [x]
def eCol (x : PyData) : Er := erOf "BadColour" ["value"] [x]
def okN : PyData → Bool
  | .int n => decide (1 ≤ n) && decide (n ≤ 5)
  | _ => false
def W_need_many : Wf := fun ds Φ Ψ => ∃ d, ds = [d] ∧ ty d ∧ outc (if okN d then .ok .none else .error (eNum d)) Φ Ψ
theorem w_need_many {C : Cn} {A : Ads} (hC : C.cl = clA A) {ds : List PyData} {Φ : PyData → Prop} (h : W_need_many ds Φ C.Psi) : wps C (t_need_many C.K A (spP C.K C.cl W_is_integer) (X1 A) C.EX) (start0 (ds.map .d) 1 0) (DD Φ) := by
  obtain ⟨d, rfl, ht, h⟩ := h
  unfold t_need_many
  have bad : okN d = false → C.Psi (eNum d) := fun e => by
    rw [e] at h
    exact h
  walk_at "w"
  refine wpe_call0 ?_
  walk_at "w"
  refine ⟨[d], rfl, d, rfl, ht, _, rfl, fun e => ?_, fun e => ⟨fun _ => ?_, fun e => nomatch e⟩⟩
  · have e : isInt d = true := by simpa using e
    obtain ⟨n, rfl⟩ := isInt_of e
    walk_at "w"
    refine ⟨_, _, rfl, rfl, fun h1 => ?_, fun h1 => ⟨_, rfl, fun _ => ?_, fun e => nomatch e⟩⟩
    · walk_at "w"
      refine ⟨_, rfl, _, rfl, fun e => ?_, fun e => ?_⟩
      · refine wps_raise2 (hC ▸ cl_num A) ?_
        walk_at "w"
        exact ⟨_, _, rfl, rfl, bad (by simpa [okN, h1] using e)⟩
      · walk_at "w"
        have : okN (.int n) = true := by simpa [okN, h1] using e
        rw [this] at h
        exact h
    · refine wps_raise2 (hC ▸ cl_num A) ?_
      walk_at "w"
      exact ⟨_, _, rfl, rfl, bad (by simp [okN, h1])⟩
  · have e : isInt d = false := by simpa using e
    refine wps_raise2 (hC ▸ cl_num A) ?_
    walk_at "w"
    exact ⟨_, _, rfl, rfl, bad (by cases d <;> first | rfl | simp [isInt] at e)⟩
def needLetters (n : Int) (d : PyData) : Except Er PyData := match rowOf d with
  | none => .error (eLet .none)
  | some row => if 40 < row.length then .error (eLet .none) else match row.findIdx? fun x => !isPt (n + 1) x with
    | some k => .error (eLet (.int (k : Int)))
    | none => .ok (.tuple row)
theorem rowOf_seq {s : S} {d : PyData} {row : List PyData} (h : rowOf d = some row) : seqW s (.d d) = some (row.map .d) ∧ IsRow d row := by
  cases d <;> simp only [rowOf, reduceCtorEq, Option.some.injEq] at h <;> subst h
  · exact ⟨rfl, .inl rfl⟩
  · exact ⟨rfl, .inr rfl⟩
theorem findIdx_at {α : Type} {p : α → Bool} {l : List α} {i : Nat} {x : α} (hx : l[i]? = some x) (hp : p x = true) (hlt : ∀ j, j < i → ∀ y, l[j]? = some y → p y = false) : l.findIdx? p = some i := by
  induction l generalizing i with
  | nil => simp at hx
  | cons a l ih =>
    cases i with
    | zero =>
      simp at hx
      subst hx
      simp [List.findIdx?_cons, hp]
    | succ i =>
      have h0 : p a = false := hlt 0 (by omega) a rfl
      rw [List.findIdx?_cons, h0, ih (by simpa using hx) fun j hj y hy => hlt (j + 1) (by omega) y (by simpa using hy)]
      simp
theorem findIdx_none {α : Type} {p : α → Bool} {l : List α} (hlt : ∀ (j : Nat) y, l[j]? = some y → p y = false) : l.findIdx? p = none := by
  rw [List.findIdx?_eq_none_iff]
  intro x hx
  obtain ⟨j, hj⟩ := List.mem_iff_getElem?.mp hx
  exact hlt j x hj
def W_need_letters : Wf := fun ds Φ Ψ => ∃ n d, ds = [.int n, d] ∧ ty d ∧ (∀ row, rowOf d = some row → ∀ x ∈ row, ty x) ∧ outc (needLetters n d) Φ Ψ
theorem w_need_letters {C : Cn} {A : Ads} (hC : C.cl = clA A) {ds : List PyData} {Φ : PyData → Prop} (h : W_need_letters ds Φ C.Psi) :
    wps C (t_need_letters C.K A (spP C.K C.cl W_is_row) (X2 A) (spP C.K C.cl W_is_point) C.EX) (start0 (ds.map .d) 4 0) (DD Φ) := by
  obtain ⟨n, d, rfl, ht, hr, h⟩ := h
  unfold t_need_letters
  walk_at "w"
  refine wpe_call0 ?_
  walk_at "w"
  refine ⟨[d], rfl, d, rfl, ht, _, rfl, fun e => ?_, fun e => ⟨fun _ => ?_, fun e => nomatch e⟩⟩
  · cases er : rowOf d with
    | none =>
      rw [er] at e
      cases e
    | some row =>
      obtain ⟨hs, hrow⟩ := rowOf_seq (s := start0 (List.map W.d [.int n, d]) 4 0) er
      walk_at "w"
      refine ⟨_, _, rfl, hs, ?_⟩
      walk_at "w"
      refine ⟨_, _, rfl, rfl, _, rfl, fun e => ?_, fun e => ?_⟩
      · refine wps_raise1 (hC ▸ cl_let A) ?_
        walk_at "w"
        refine ⟨_, rfl, ?_⟩
        have e2 : 40 < row.length := by
          have := of_decide_eq_true e
          rw [List.length_map] at this
          omega
        unfold needLetters at h
        rw [er] at h
        simp only [if_pos e2] at h
        exact h
      · have e2 : ¬ 40 < row.length := by
          have := of_decide_eq_false e
          rw [List.length_map] at this
          omega
        unfold needLetters at h
        rw [er] at h
        simp only [if_neg e2] at h
        walk_at "w"
        refine wps_for (items := enumD row) (fun i s => (∀ j, j < i → ∀ x, row[j]? = some x → isPt (n + 1) x = true) ∧ ∃ w2 w3, s = ⟨[.d (.int n), .d d, w2, w3], [], 0⟩) ?_ ?_ ?_
        · refine wpi_enumA ?_
          walk_at "w"
          exact ⟨d, row, rfl, hrow, rfl, fun j hj => absurd hj (Nat.not_lt_zero _), _, _, rfl⟩
        · rintro i dd s1 hd ⟨hi, w2, w3, rfl⟩
          obtain ⟨x, hx, rfl⟩ := enumD_get hd
          refine wpg_tup2 ?_
          have htx : ty x := hr row er x (List.mem_of_getElem? hx)
          walk_at "w"
          refine wpe_call0 ?_
          walk_at "w"
          refine ⟨_, _, rfl, rfl, ?_⟩
          walk_at "w"
          refine ⟨[.int (n + 1), x], rfl, _, x, rfl, htx, _, rfl, fun e => ?_, fun e => ?_⟩
          · have e : isPt (n + 1) x = false := by simpa using e
            refine wps_raise1 (hC ▸ cl_let A) ?_
            walk_at "w"
            refine ⟨_, rfl, ?_⟩
            have hf := findIdx_at (p := fun x => !isPt (n + 1) x) hx (by rw [e]; rfl) fun j hj y hy => by rw [hi j hj y hy]; rfl
            simp only [hf] at h
            exact h
          · have e : isPt (n + 1) x = true := by simpa using e
            walk_at "w"
            refine ⟨fun j hj y hy => ?_, _, _, rfl⟩
            by_cases hji : j = i
            · subst hji
              rw [hx] at hy
              cases hy
              exact e
            · exact hi j (by omega) y hy
        · rintro s1 ⟨hi, w2, w3, rfl⟩
          rw [enumD_len] at hi
          have hf := findIdx_none (p := fun x => !isPt (n + 1) x) (l := row) fun j y hy => by rw [hi j (List.getElem?_eq_some_iff.mp hy).1 y hy]; rfl
          simp only [hf] at h
          walk_at "w"
          exact ⟨_, row, rfl, (rowOf_seq er).1, _, rfl, h⟩
  · have er : rowOf d = none := by
      cases er : rowOf d with
      | none => rfl
      | some row =>
        rw [er] at e
        cases e
    refine wps_raise1 (hC ▸ cl_let A) ?_
    walk_at "w"
    refine ⟨_, rfl, ?_⟩
    unfold needLetters at h
    rw [er] at h
    exact h
/-! ### asked -/
def needMany (d : PyData) : Except Er PyData := if okN d then .ok .none else .error (eNum d)
def needAsked (dn dw di : PyData) : Except Er PyData := match dn with
  | .int n => if okN (.int n) then match needLetters n dw with
    | .ok r => if isPt n di then .ok r else .error (eCol di)
    | .error e => .error e else .error (eNum dn)
  | d => .error (eNum d)
def W_need_asked : Wf := fun ds Φ Ψ => ∃ dn dw di, ds = [dn, dw, di] ∧ ty dn ∧ ty dw ∧ ty di ∧ (∀ row, rowOf dw = some row → ∀ x ∈ row, ty x) ∧ outc (needAsked dn dw di) Φ Ψ
theorem okN_int {d : PyData} (h : okN d = true) : ∃ n : Int, d = .int n ∧ 1 ≤ n ∧ n ≤ 5 := by
  cases d with
  | int n => exact ⟨n, rfl, by simpa [okN] using h⟩
  | _ => cases h
theorem w_need_asked {C : Cn} {A : Ads} (hC : C.cl = clA A) {ds : List PyData} {Φ : PyData → Prop} (h : W_need_asked ds Φ C.Psi) :
    wps C (t_need_asked C.K A (spP C.K C.cl W_need_many) (spP C.K C.cl W_need_letters) (spP C.K C.cl W_is_point) (X3 A) C.EX) (start0 (ds.map .d) 4 0) (DD Φ) := by
  obtain ⟨dn, dw, di, rfl, tn, tw, ti, hr, h⟩ := h
  unfold t_need_asked
  walk_at "w"
  refine wpe_call ?_
  walk_at "w"
  refine ⟨[dn], rfl, dn, rfl, tn, ?_⟩
  cases e : okN dn with
  | false =>
    have : needAsked dn dw di = .error (eNum dn) := by
      cases dn <;> simp [needAsked, e]
    rw [this] at h
    exact h
  | true =>
    obtain ⟨n, rfl, h1, h5⟩ := okN_int e
    have hq : needAsked (.int n) dw di = match needLetters n dw with
      | .ok r => if isPt n di then .ok r else .error (eCol di)
      | .error e => .error e := by
      simp only [needAsked, e, if_true]
    rw [hq] at h
    show wps _ _ _ _
    walk_at "w"
    refine wpe_call ?_
    walk_at "w"
    refine ⟨[.int n, dw], rfl, n, dw, rfl, tw, hr, ?_⟩
    cases el : needLetters n dw with
    | error er =>
      rw [el] at h
      exact h
    | ok r =>
      rw [el] at h
      show wps _ _ _ _
      walk_at "w"
      refine wpe_call0 ?_
      walk_at "w"
      refine ⟨[.int n, di], rfl, n, di, rfl, ti, _, rfl, fun e => ?_, fun e => ?_⟩
      · have e : isPt n di = false := by simpa using e
        simp only [e] at h
        refine wps_raise1 (hC ▸ cl_col A) ?_
        walk_at "w"
        exact ⟨_, rfl, h⟩
      · have e : isPt n di = true := by simpa using e
        simp only [e] at h
        walk_at "w"
        exact ⟨_, rfl, h⟩
/-! ### the brackets of a word -/
def iN (xs : List Nat) : List PyData := xs.map fun (k : Nat) => .int (k : Int)
def leftS (i : Int) (st : List Nat × List Nat) (p : Int × Nat) : List Nat × List Nat :=
  if p.1 = i then (st.1, st.2 ++ [p.2]) else if p.1 = i + 1 then if 0 < st.2.length then (st.1, st.2.dropLast) else (st.1 ++ [p.2], st.2) else st
def leftF (i : Int) (w : List Int) : List Nat × List Nat := w.zipIdx.foldl (leftS i) ([], [])
theorem zipIdx_take {α : Type} {w : List α} {j : Nat} {x : α} (h : w[j]? = some x) : w.zipIdx.take (j + 1) = w.zipIdx.take j ++ [(x, j)] := by
  rw [List.take_succ]
  simp [List.getElem?_zipIdx, h]
theorem leftS_len (i : Int) (st : List Nat × List Nat) (p : Int × Nat) : (leftS i st p).1.length + (leftS i st p).2.length ≤ st.1.length + st.2.length + 1 := by
  unfold leftS
  split
  · simp; omega
  · split
    · split
      · simp; omega
      · simp; omega
    · omega
theorem leftF_len {i : Int} : ∀ {w : List (Int × Nat)} {st : List Nat × List Nat}, (w.foldl (leftS i) st).1.length + (w.foldl (leftS i) st).2.length ≤ st.1.length + st.2.length + w.length
  | [], _ => by simp
  | p :: w, st => by
    rw [List.foldl_cons]
    have a := leftF_len (i := i) (w := w) (st := leftS i st p)
    have b := leftS_len i st p
    rw [List.length_cons]
    omega
def W_left_of : Wf := fun ds Φ _ => ∃ w i, ds = [.tuple (iL w), .int i] ∧ w.length ≤ 50000 ∧ Φ (.tuple [.list (iN (leftF i w).1), .list (iN (leftF i w).2)])
theorem w_left_of {C : Cn} {A : Ads} {ds : List PyData} {Φ : PyData → Prop} {Ψ : Er → Prop} (h : W_left_of ds Φ Ψ) : wps C (t_left_of C.K A) (start0 (ds.map .d) 6 0) (DD Φ) := by
  obtain ⟨w, i, rfl, hl, h⟩ := h
  unfold t_left_of
  refine wps_seq (wps_par (wpa_cons (wpe_lstM (wpa_nil ⟨Nat.zero_le _, wpa_cons (wpe_lstM (wpa_nil ⟨Nat.zero_le _, wpa_nil ⟨_, _, rfl, ?_⟩⟩))⟩))))
  refine wps_seq ?_
  refine wps_for (items := enumD (iL w)) (fun j s => ∃ wa wb hi lo, s = ⟨[.d (.tuple (iL w)), .d (.int i), .m 0, .m 1, wa, wb], [some ((iN hi).map .d), some ((iN lo).map .d)], 0⟩ ∧ (hi, lo) = (w.zipIdx.take j).foldl (leftS i) ([], [])) ?_ ?_ ?_
  · refine wpi_enumT ?_
    walk_at "w"
    exact ⟨iL w, rfl, rfl, _, _, [], [], rfl, rfl⟩
  · rintro j d s1 hd ⟨wa, wb, hi, lo, rfl, hst⟩
    obtain ⟨x, hx, rfl⟩ := enumD_get hd
    obtain ⟨a, ha, rfl⟩ : ∃ a, w[j]? = some a ∧ x = .int a := by
      rw [iL, List.getElem?_map] at hx
      cases e : w[j]? with
      | none => simp [e] at hx
      | some a => exact ⟨a, rfl, by simpa [e] using hx.symm⟩
    have hz := zipIdx_take ha
    have hlen := leftF_len (i := i) (w := w.zipIdx.take j) (st := ([], []))
    rw [← hst] at hlen
    have hjl : (w.zipIdx.take j).length ≤ w.length := by
      rw [List.length_take, List.length_zipIdx]
      exact Nat.min_le_right ..
    simp only [List.length_nil] at hlen
    have nxt : ∀ hi2 lo2, (hi2, lo2) = leftS i (hi, lo) (a, j) → (hi2, lo2) = (w.zipIdx.take (j + 1)).foldl (leftS i) ([], []) := fun hi2 lo2 e => by
      rw [hz, List.foldl_append, ← hst]
      exact e
    refine wpg_tup2 ?_
    walk_at "w"
    refine ⟨_, _, _, _, rfl, rfl, rfl, rfl, rfl, _, rfl, fun e => ?_, fun e => ?_⟩
    · have e : a = i := by simpa using e
      walk_at "w"
      refine ⟨1, _, rfl, rfl, ?_⟩
      walk_at "w"
      refine ⟨_, rfl, by rw [List.length_map, iN, List.length_map]; omega, .d (.int (j : Int)), .d (.int a), hi, lo ++ [j], ?_, nxt _ _ (by simp [leftS, e])⟩
      simp only [iN, List.map_append]
      rfl
    · have e : ¬ a = i := by simpa using e
      walk_at "w"
      refine ⟨_, _, rfl, rfl, _, _, _, _, rfl, rfl, rfl, rfl, rfl, _, rfl, fun e2 => ?_, fun e2 => ?_⟩
      · have e2 : a = i + 1 := by simpa using e2
        walk_at "w"
        refine ⟨_, _, rfl, rfl, ?_⟩
        walk_at "w"
        refine ⟨_, _, rfl, rfl, _, rfl, fun e3 => ?_, fun e3 => ?_⟩
        · have e3 : 0 < lo.length := by simpa [iN] using e3
          walk_at "w"
          have hlo : lo = lo.dropLast ++ [lo.getLast (by intro z; rw [z] at e3; cases e3)] := (List.dropLast_concat_getLast _).symm
          refine ⟨1, (iN lo.dropLast).map .d, .d (.int (lo.getLast (by intro z; rw [z] at e3; cases e3) : Nat)), rfl, ?_, ?_⟩
          · show some (some ((iN lo).map W.d)) = _
            conv => lhs; rw [hlo]
            simp only [iN, List.map_append]
            rfl
          · refine ⟨_, _, hi, lo.dropLast, rfl, nxt _ _ (by unfold leftS; rw [if_neg e, if_pos e2, if_pos e3])⟩
        · have e3 : lo.length = 0 := by simpa [iN] using e3
          walk_at "w"
          refine ⟨0, _, rfl, rfl, ?_⟩
          walk_at "w"
          refine ⟨_, rfl, by rw [List.length_map, iN, List.length_map]; omega, .d (.int (j : Int)), .d (.int a), hi ++ [j], lo, ?_, nxt _ _ (by unfold leftS; rw [if_neg e, if_pos e2, if_neg (by show ¬ 0 < lo.length; omega)])⟩
          simp only [iN, List.map_append]
          rfl
      · have e2 : ¬ a = i + 1 := by simpa using e2
        walk_at "w"
        exact ⟨_, _, hi, lo, rfl, nxt _ _ (by simp [leftS, e, e2])⟩
  · rintro s1 ⟨wa, wb, hi, lo, rfl, hst⟩
    rw [List.take_of_length_le (by rw [enumD_len, iL_len, List.length_zipIdx]; exact Nat.le_refl _)] at hst
    refine wps_frz2 rfl ?_
    walk_at "w"
    refine ⟨[.list (iN hi), .list (iN lo)], rfl, by simp, _, rfl, ?_⟩
    have e1 : hi = (leftF i w).1 := (congrArg Prod.fst hst)
    have e2 : lo = (leftF i w).2 := (congrArg Prod.snd hst)
    rw [e1, e2]
    exact h
/-! ### a letter changed -/
def chg (w : List Int) (k : Nat) (x : Int) : List Int := w.take k ++ [x] ++ w.drop (k + 1)
def W_changed : Wf := fun ds Φ _ => ∃ (w : List Int) (k : Nat) (x : Int), ds = [.tuple (iL w), .int (k : Int), .int x] ∧ w.length ≤ 40 ∧ Φ (.tuple (iL (chg w k x)))
theorem w_changed {C : Cn} {A : Ads} {ds : List PyData} {Φ : PyData → Prop} {Ψ : Er → Prop} (h : W_changed ds Φ Ψ) : wps C (t_changed C.K A) (start0 (ds.map .d) 3 0) (DD Φ) := by
  obtain ⟨w, k, x, rfl, hl, h⟩ := h
  unfold t_changed
  walk_at "w"
  refine ⟨_, rfl, _, rfl, ?_⟩
  walk_at "w"
  refine ⟨[.int x], rfl, by simp, _, _, rfl, rfl, ?_, ?_⟩
  · rw [cut_to, iL, ← List.map_take, List.length_map, List.length_take]
    have := Nat.min_le_right k w.length
    show _ + 1 ≤ _
    omega
  walk_at "w"
  refine ⟨_, _, rfl, rfl, _, rfl, ?_⟩
  walk_at "w"
  refine ⟨_, rfl, _, _, rfl, rfl, ?_, _, rfl, ?_⟩
  · rw [cut_to, cut_fromI (i := (k : Int) + 1) _ (k := k + 1) rfl, iL, ← List.map_take, ← List.map_drop, List.length_append, List.length_map, List.length_take, List.length_map, List.length_drop]
    have := Nat.min_le_right k w.length
    show _ + 1 + _ ≤ _
    omega
  · have : cut (iL w) none (some (k : Int)) ++ [PyData.int x] ++ cut (iL w) (some ((k : Int) + 1)) none = iL (chg w k x) := by
      rw [cut_to, cut_fromI (i := (k : Int) + 1) _ (k := k + 1) rfl, iL, ← List.map_take, ← List.map_drop, iL, chg, List.map_append, List.map_append]
      rfl
    rw [this]
    exact h
def oT : Option (List Int) → PyData
  | none => .none
  | some w => .tuple (iL w)
def wDown (i : Int) (w : List Int) : Option (List Int) := match (leftF i w).2 with
  | [] => none
  | k :: _ => some (chg w k (i + 1))
def wUp (i : Int) (w : List Int) : Option (List Int) := match (leftF i w).1.getLast? with
  | none => none
  | some k => some (chg w k i)
def W_word_down : Wf := fun ds Φ _ => ∃ (w : List Int) (i : Int), ds = [.tuple (iL w), .int i] ∧ w.length ≤ 40 ∧ Φ (oT (wDown i w))
theorem w_word_down {C : Cn} {A : Ads} {ds : List PyData} {Φ : PyData → Prop} {Ψ : Er → Prop} (h : W_word_down ds Φ Ψ) : wps C (t_word_down C.K A (spP C.K C.cl W_left_of) (spP C.K C.cl W_changed)) (start0 (ds.map .d) 3 0) (DD Φ) := by
  obtain ⟨w, i, rfl, hl, h⟩ := h
  unfold t_word_down
  walk_at "w"
  refine wpe_call0 ?_
  walk_at "w"
  refine ⟨[.tuple (iL w), .int i], rfl, w, i, rfl, by omega, ?_⟩
  walk_at "w"
  refine ⟨_, _, _, rfl, rfl, rfl, ?_⟩
  walk_at "w"
  refine ⟨_, _, rfl, rfl, ?_⟩
  walk_at "w"
  refine ⟨_, _, rfl, rfl, _, rfl, fun e => ?_, fun e => ?_⟩
  · unfold wDown at h
    rcases el : (leftF i w).2 with _ | ⟨k, ks⟩
    · simp [el, iN] at e
    · simp only [el] at h
      refine wpe_call0 ?_
      walk_at "w"
      refine ⟨(iN (k :: ks)).map .d, 0, .d (.int (k : Int)), rfl, rfl, atI_d (atI_nat (by decide) rfl), ?_⟩
      walk_at "w"
      refine ⟨_, _, rfl, rfl, ?_⟩
      walk_at "w"
      exact ⟨[.tuple (iL w), .int (k : Int), .int (i + 1)], rfl, w, k, _, rfl, hl, _, rfl, h⟩
  · unfold wDown at h
    cases el : (leftF i w).2 with
    | nil =>
      simp only [el] at h
      walk_at "w"
      exact ⟨_, rfl, h⟩
    | cons k ks => simp [el, iN] at e
def W_word_up : Wf := fun ds Φ _ => ∃ (w : List Int) (i : Int), ds = [.tuple (iL w), .int i] ∧ w.length ≤ 40 ∧ Φ (oT (wUp i w))
theorem w_word_up {C : Cn} {A : Ads} {ds : List PyData} {Φ : PyData → Prop} {Ψ : Er → Prop} (h : W_word_up ds Φ Ψ) : wps C (t_word_up C.K A (spP C.K C.cl W_left_of) (spP C.K C.cl W_changed)) (start0 (ds.map .d) 3 0) (DD Φ) := by
  obtain ⟨w, i, rfl, hl, h⟩ := h
  unfold t_word_up
  walk_at "w"
  refine wpe_call0 ?_
  walk_at "w"
  refine ⟨[.tuple (iL w), .int i], rfl, w, i, rfl, by omega, ?_⟩
  walk_at "w"
  refine ⟨_, _, _, rfl, rfl, rfl, ?_⟩
  walk_at "w"
  refine ⟨_, _, rfl, rfl, ?_⟩
  walk_at "w"
  refine ⟨_, _, rfl, rfl, _, rfl, fun e => ?_, fun e => ?_⟩
  · unfold wUp at h
    cases el : (leftF i w).1.getLast? with
    | none =>
      rw [List.getLast?_eq_none_iff] at el
      simp [el, iN] at e
    | some k =>
      simp only [el] at h
      refine wpe_call0 ?_
      walk_at "w"
      refine ⟨_, rfl, (iN (leftF i w).1).map .d, -1, .d (.int (k : Int)), rfl, rfl, atI_d (atI_last (by rw [iN, List.getLast?_map, el]; rfl)), ?_⟩
      walk_at "w"
      exact ⟨[.tuple (iL w), .int (k : Int), .int i], rfl, w, k, _, rfl, hl, _, rfl, h⟩
  · unfold wUp at h
    cases el : (leftF i w).1.getLast? with
    | none =>
      simp only [el] at h
      walk_at "w"
      exact ⟨_, rfl, h⟩
    | some k =>
      have : (leftF i w).1 ≠ [] := fun z => by rw [z] at el; cases el
      have := List.length_pos_iff.mpr this
      simp [iN] at e
      exact absurd e (List.length_pos_iff.mp this)
/-! ### what is asked of a word -/
def intOf : PyData → Int
  | .int i => i
  | _ => 0
def askedF (dn dw di : PyData) : Except Er (List Int × Int) := match needAsked dn dw di with
  | .error e => .error e
  | .ok _ => .ok (((rowOf dw).getD []).map intOf, intOf di)
theorem isPt_int {m : Int} {d : PyData} (h : isPt m d = true) : d = .int (intOf d) ∧ 0 ≤ intOf d ∧ intOf d < m := by
  cases d with
  | int v => exact ⟨rfl, by simpa [isPt, intOf] using h⟩
  | _ => cases h
theorem needLetters_ok {n : Int} {dw r : PyData} (h : needLetters n dw = .ok r) : ∃ row, rowOf dw = some row ∧ row = iL (row.map intOf) ∧ r = .tuple row ∧ row.length ≤ 40 ∧ ∀ x ∈ row.map intOf, 0 ≤ x ∧ x < n + 1 := by
  unfold needLetters at h
  cases er : rowOf dw with
  | none =>
    simp only [er] at h
    cases h
  | some row =>
    simp only [er] at h
    by_cases hl : 40 < row.length
    · rw [if_pos hl] at h
      cases h
    · rw [if_neg hl] at h
      cases hf : row.findIdx? (fun x => !isPt (n + 1) x) with
      | some k =>
        simp only [hf] at h
        cases h
      | none =>
        simp only [hf] at h
        cases h
        rw [List.findIdx?_eq_none_iff] at hf
        have hall : ∀ x ∈ row, isPt (n + 1) x = true := fun x hx => by simpa using hf x hx
        refine ⟨row, rfl, ?_, rfl, by omega, fun x hx => ?_⟩
        · rw [iL, List.map_map]
          conv => lhs; rw [← List.map_id row]
          exact List.map_congr_left fun x hx => (isPt_int (hall x hx)).1
        · obtain ⟨y, hy, rfl⟩ := List.mem_map.mp hx
          exact (isPt_int (hall y hy)).2
theorem needAsked_ok {dn dw di r : PyData} (h : needAsked dn dw di = .ok r) : ∃ w i, askedF dn dw di = .ok (w, i) ∧ r = .tuple (iL w) ∧ di = .int i ∧ w.length ≤ 40 := by
  have h0 := h
  unfold needAsked at h
  cases dn with
  | int n =>
    simp only at h
    cases e : okN (.int n) with
    | false =>
      rw [e] at h
      cases h
    | true =>
      rw [e] at h
      simp only [if_true] at h
      cases el : needLetters n dw with
      | error er =>
        simp only [el] at h
        cases h
      | ok q =>
        simp only [el] at h
        cases ep : isPt n di with
        | false =>
          rw [ep] at h
          cases h
        | true =>
          rw [ep] at h
          simp only [if_true] at h
          cases h
          obtain ⟨row, hr, hi, rfl, hl, _⟩ := needLetters_ok el
          refine ⟨row.map intOf, intOf di, ?_, congrArg PyData.tuple hi, (isPt_int ep).1, by rw [List.length_map]; exact hl⟩
          unfold askedF
          rw [h0, hr]
          rfl
  | _ => cases h
theorem needAsked_err {dn dw di : PyData} {e : Er} (h : needAsked dn dw di = .error e) : askedF dn dw di = .error e := by
  unfold askedF
  rw [h]
/-- what a def that asks answers -/
def askO (f : List Int → Int → PyData) (dn dw di : PyData) : Except Er PyData := (askedF dn dw di).map fun p => f p.1 p.2
def W_ask (f : List Int → Int → PyData) : Wf := fun ds Φ Ψ => ∃ dn dw di, ds = [dn, dw, di] ∧ ty dn ∧ ty dw ∧ ty di ∧ (∀ row, rowOf dw = some row → ∀ x ∈ row, ty x) ∧ outc (askO f dn dw di) Φ Ψ
def W_lower_word : Wf := W_ask fun w i => oT (wDown i w)
def W_raise_word : Wf := W_ask fun w i => oT (wUp i w)
def W_word_depths : Wf := W_ask fun w i => .tuple [.int ((leftF i w).2.length : Int), .int ((leftF i w).1.length : Int)]
theorem ask_use {f : List Int → Int → PyData} {dn dw di : PyData} {Φ Φ' : PyData → Prop} {Ψ : Er → Prop} (h : outc (askO f dn dw di) Φ Ψ) (k : ∀ w i, di = .int i → w.length ≤ 40 → Φ (f w i) → Φ' (.tuple (iL w))) : outc (needAsked dn dw di) Φ' Ψ := by
  cases e : needAsked dn dw di with
  | error er =>
    rw [askO, needAsked_err e] at h
    exact h
  | ok r =>
    obtain ⟨w, i, ea, rfl, ei, hl⟩ := needAsked_ok e
    rw [askO, ea] at h
    exact k w i ei hl h
theorem w_lower_word {C : Cn} {A : Ads} {ds : List PyData} {Φ : PyData → Prop} (h : W_lower_word ds Φ C.Psi) : wps C (t_lower_word C.K A (spP C.K C.cl W_word_down) (spP C.K C.cl W_need_asked) C.EX) (start0 (ds.map .d) 3 0) (DD Φ) := by
  obtain ⟨dn, dw, di, rfl, tn, tw, ti, hr, h⟩ := h
  unfold t_lower_word
  walk_at "w"
  refine wpe_call0 ?_
  walk_at "w"
  refine wpe_call ?_
  walk_at "w"
  refine ⟨[dn, dw, di], rfl, dn, dw, di, rfl, tn, tw, ti, hr, ask_use h fun w i ei hl hk => ?_⟩
  subst ei
  walk_at "w"
  exact ⟨[.tuple (iL w), .int i], rfl, w, i, rfl, hl, _, rfl, hk⟩
theorem w_raise_word {C : Cn} {A : Ads} {ds : List PyData} {Φ : PyData → Prop} (h : W_raise_word ds Φ C.Psi) : wps C (t_raise_word C.K A (spP C.K C.cl W_word_up) (spP C.K C.cl W_need_asked) C.EX) (start0 (ds.map .d) 3 0) (DD Φ) := by
  obtain ⟨dn, dw, di, rfl, tn, tw, ti, hr, h⟩ := h
  unfold t_raise_word
  walk_at "w"
  refine wpe_call0 ?_
  walk_at "w"
  refine wpe_call ?_
  walk_at "w"
  refine ⟨[dn, dw, di], rfl, dn, dw, di, rfl, tn, tw, ti, hr, ask_use h fun w i ei hl hk => ?_⟩
  subst ei
  walk_at "w"
  exact ⟨[.tuple (iL w), .int i], rfl, w, i, rfl, hl, _, rfl, hk⟩
theorem w_word_depths {C : Cn} {A : Ads} {ds : List PyData} {Φ : PyData → Prop} (h : W_word_depths ds Φ C.Psi) : wps C (t_word_depths C.K A (spP C.K C.cl W_left_of) (spP C.K C.cl W_need_asked) C.EX) (start0 (ds.map .d) 5 0) (DD Φ) := by
  obtain ⟨dn, dw, di, rfl, tn, tw, ti, hr, h⟩ := h
  unfold t_word_depths
  walk_at "w"
  refine wpe_call0 ?_
  walk_at "w"
  refine wpe_call ?_
  walk_at "w"
  refine ⟨[dn, dw, di], rfl, dn, dw, di, rfl, tn, tw, ti, hr, ask_use h fun w i ei hl hk => ?_⟩
  subst ei
  walk_at "w"
  refine ⟨[.tuple (iL w), .int i], rfl, w, i, rfl, by omega, wpg_tup2 ?_⟩
  walk_at "w"
  refine ⟨_, _, rfl, rfl, ?_⟩
  walk_at "w"
  refine ⟨_, _, rfl, rfl, ?_⟩
  walk_at "w"
  refine ⟨[.int _, .int _], rfl, by simp, _, rfl, ?_⟩
  simp only [iN, List.length_map] at hk ⊢
  exact hk
/-! ### weights, highest words -/
def weightF (n : Nat) (w : List Int) : List Int := (List.range n).map fun (i : Nat) => (w.count (i : Int) : Int) - (w.count ((i : Int) + 1) : Int)
theorem zipD_iL (xs ys : List Int) : zipD (iL xs) (iL ys) = (xs.zip ys).map fun p => .tuple [.int p.1, .int p.2] := by
  rw [zipD, iL, iL, List.zip_map, List.map_map]
  rfl
theorem count_filter (w : List Int) (i : Int) : (w.filter fun x => decide (x = i)).length = w.count i := by
  rw [List.count, List.countP_eq_length_filter]
  refine congrArg List.length ?_
  exact List.filter_congr fun x _ => by
    by_cases e : x = i <;> simp [e]
theorem weight_zip (n : Nat) (w : List Int) : ((List.range (n + 1)).map fun (i : Nat) => (w.count (i : Int) : Int)).zip (((List.range (n + 1)).map fun (i : Nat) => (w.count (i : Int) : Int)).drop 1) = (List.range n).map fun (i : Nat) => ((w.count (i : Int) : Int), (w.count ((i : Int) + 1) : Int)) := by
  refine List.ext_getElem ?_ fun j h1 h2 => ?_
  · simp
  · simp
def W_weight_of_letters : Wf := fun ds Φ _ => ∃ (n : Nat) (w : List Int), ds = [.int (n : Int), .tuple (iL w)] ∧ n ≤ 5 ∧ w.length ≤ 40 ∧ Φ (.tuple (iL (weightF n w)))
theorem w_weight_of_letters {C : Cn} {A : Ads} {ds : List PyData} {Φ : PyData → Prop} {Ψ : Er → Prop} (h : W_weight_of_letters ds Φ Ψ) : wps C (t_weight_of_letters C.K A) (start0 (ds.map .d) 7 0) (DD Φ) := by
  obtain ⟨n, w, rfl, hn, hl, h⟩ := h
  unfold t_weight_of_letters
  refine wps_seq (wps_set ?_)
  refine wpe_lcP (List.range (n + 1)) (fun i => .int (0 + (i : Int))) (fun _ => true) (fun i => .int (w.count (i : Int) : Int)) (tgw_name (by simp)) ?_
  refine wpi_rng1 ?_
  walk_at "w"
  refine ⟨_, _, rfl, rfl, ?_⟩
  walk_at "w"
  refine ⟨_, rfl, by omega, by omega, ?_, by simp; omega, ?_, ?_⟩
  · rw [show ((n : Int) + 1).toNat = n + 1 by omega]
    rfl
  · rintro i hi ⟨sl, ms, c⟩ e1 e2 e3
    have e1 : sl = _ := e1
    subst e1
    refine wpg_name ?_
    walk_at "w"
    refine ⟨rfl, e2, rfl, fun _ => ?_⟩
    walk_at "w"
    refine wpe_lcP w .int (fun x => decide (x = (i : Int))) .int (tgw_name (by simp)) ?_
    refine wpi_tup ?_
    walk_at "w"
    refine ⟨_, rfl, rfl, by omega, ?_, ?_⟩
    · rintro x hx ⟨sl2, ms2, c2⟩ e4 e5 e6
      have e4 : sl2 = _ := e4
      subst e4
      refine wpg_name ?_
      walk_at "w"
      refine ⟨_, _, _, _, rfl, rfl, rfl, rfl, rfl, _, rfl, ?_, e5, rfl, fun _ => ?_⟩
      · simp
      · walk_at "w"
        exact ⟨rfl, e5, rfl⟩
    · walk_at "w"
      refine ⟨_, _, rfl, rfl, ?_, e2, rfl⟩
      simp only [List.length_map, count_filter]
  · rw [filter_tt]
    walk_at "w"
    refine wpe_lcP (α := Int × Int) ((List.range n).map fun (i : Nat) => ((w.count (i : Int) : Int), (w.count ((i : Int) + 1) : Int))) (fun p => .tuple [.int p.1, .int p.2]) (fun _ => true) (fun p => .int (p.1 - p.2)) (tgw_tup2 (by simp) (by simp)) ?_
    refine wpi_zip ?_
    walk_at "g"
    refine ⟨?_, by simp; omega, ?_, ?_⟩
    · rw [← weight_zip, ← zipD_iL]
      congr 1
      · simp [iL]
      · rw [show (1 : Int) = ((1 : Nat) : Int) from rfl, cut_from _ 1, iL, List.map_drop]
        simp
        rfl
    · rintro ⟨x, y⟩ hx ⟨sl, ms, c⟩ e1 e2 e3
      have e1 : sl = _ := e1
      subst e1
      refine wpg_tup2 ?_
      walk_at "w"
      refine ⟨rfl, e2, rfl, fun _ => ?_⟩
      walk_at "w"
      exact ⟨_, _, rfl, rfl, rfl, e2, rfl⟩
    · rw [filter_tt, List.map_map]
      walk_at "w"
      refine ⟨_, iL (weightF n w), rfl, ?_, _, rfl, h⟩
      simp [seqW, lstW, iL, weightF]
/-- what a def of n and a word answers -/
def askedW (dn dw : PyData) : Except Er (Nat × List Int) := match dn with
  | .int n => if okN (.int n) then match needLetters n dw with
    | .ok _ => .ok (n.toNat, ((rowOf dw).getD []).map intOf)
    | .error e => .error e else .error (eNum (.int n))
  | d => .error (eNum d)
def wrdO (f : Nat → List Int → PyData) (dn dw : PyData) : Except Er PyData := (askedW dn dw).map fun p => f p.1 p.2
def W_wrd (f : Nat → List Int → PyData) : Wf := fun ds Φ Ψ => ∃ dn dw, ds = [dn, dw] ∧ ty dn ∧ ty dw ∧ (∀ row, rowOf dw = some row → ∀ x ∈ row, ty x) ∧ outc (wrdO f dn dw) Φ Ψ
theorem wrd_use {C : Cn} {f : Nat → List Int → PyData} {Wd : Wf} {ds : List PyData} {Φ : PyData → Prop} (h : W_wrd f ds Φ C.Psi)
    (hW : ∀ (n : Nat) (w : List Int) (Φ : PyData → Prop), n ≤ 5 → w.length ≤ 40 → Φ (f n w) → Wd [.int (n : Int), .tuple (iL w)] Φ fun _ => False) :
    wps C (tSeq (tDrop (tCall (spP C.K C.cl W_need_many) [] C.EX (tCons (tVar 0) tNil)))
    (tRet (tCall (spP C.K C.cl Wd) [] E0 (tCons (tVar 0) (tCons (tCall (spP C.K C.cl W_need_letters) [] C.EX (tCons (tVar 0) (tCons (tVar 1) tNil))) tNil))))) (start0 (ds.map .d) 2 0) (DD Φ) := by
  obtain ⟨dn, dw, rfl, tn, tw, hr, h⟩ := h
  walk_at "w"
  refine wpe_call ?_
  walk_at "w"
  refine ⟨[dn], rfl, dn, rfl, tn, ?_⟩
  cases e : okN dn with
  | false =>
    have : wrdO f dn dw = .error (eNum dn) := by
      cases dn <;> simp [wrdO, askedW, e] <;> rfl
    rw [this] at h
    exact h
  | true =>
    obtain ⟨n, rfl, h1, h5⟩ := okN_int e
    have hq : askedW (.int n) dw = match needLetters n dw with
      | .ok _ => .ok (n.toNat, ((rowOf dw).getD []).map intOf)
      | .error e => .error e := by
      simp only [askedW, e, if_true]
    show wps _ _ _ _
    walk_at "w"
    refine wpe_call0 ?_
    walk_at "w"
    refine wpe_call ?_
    walk_at "w"
    refine ⟨[.int n, dw], rfl, n, dw, rfl, tw, hr, ?_⟩
    rw [wrdO, hq] at h
    cases el : needLetters n dw with
    | error er =>
      rw [el] at h
      exact h
    | ok r =>
      obtain ⟨row, er, ei, rfl, hl, _⟩ := needLetters_ok el
      rw [el, er] at h
      show wpa _ _ _ _
      walk_at "w"
      refine ⟨[.int n, .tuple row], rfl, ?_⟩
      have hn : (n.toNat : Int) = n := Int.toNat_of_nonneg (by omega)
      have := hW n.toNat (row.map intOf) (fun d => ∃ d', W.d d = .d d' ∧ Φ d') (by omega) (by rw [List.length_map]; exact hl) ⟨_, rfl, h⟩
      rw [hn, ← ei] at this
      exact this
def W_word_weight : Wf := W_wrd fun n w => .tuple (iL (weightF n w))
theorem w_word_weight {C : Cn} {A : Ads} {ds : List PyData} {Φ : PyData → Prop} (h : W_word_weight ds Φ C.Psi) : wps C (t_word_weight C.K A (spP C.K C.cl W_need_many) (spP C.K C.cl W_weight_of_letters) (spP C.K C.cl W_need_letters) C.EX) (start0 (ds.map .d) 2 0) (DD Φ) :=
  wrd_use h fun n w Φ hn hl h => ⟨n, w, rfl, hn, hl, h⟩
def highF (n : Nat) (w : List Int) : Bool := (List.range n).all fun (i : Nat) => (wUp (i : Int) w).isNone
def W_is_high : Wf := fun ds Φ _ => ∃ (n : Nat) (w : List Int), ds = [.int (n : Int), .tuple (iL w)] ∧ n ≤ 5 ∧ w.length ≤ 40 ∧ Φ (.bool (highF n w))
theorem w_is_high {C : Cn} {A : Ads} {ds : List PyData} {Φ : PyData → Prop} {Ψ : Er → Prop} (h : W_is_high ds Φ Ψ) : wps C (t_is_high C.K A (spP C.K C.cl W_word_up)) (start0 (ds.map .d) 3 0) (DD Φ) := by
  obtain ⟨n, w, rfl, hn, hl, h⟩ := h
  unfold t_is_high
  walk_at "w"
  refine wpe_lcP (List.range n) (fun i => .int (0 + (i : Int))) (fun _ => true) (fun i => .bool (wUp (i : Int) w).isNone) (tgw_name (by simp)) ?_
  refine wpi_rng1 ?_
  walk_at "w"
  refine ⟨_, rfl, by omega, by omega, rfl, by simp; omega, ?_, ?_⟩
  · rintro i hi ⟨sl, ms, c⟩ e1 e2 e3
    have e1 : sl = _ := e1
    subst e1
    refine wpg_name ?_
    walk_at "w"
    refine ⟨rfl, e2, rfl, fun _ => ?_⟩
    walk_at "w"
    refine wpe_call0 ?_
    walk_at "w"
    refine ⟨[.tuple (iL w), .int (0 + (i : Int))], rfl, w, _, rfl, hl, ?_⟩
    rw [Int.zero_add]
    refine ⟨(wUp (i : Int) w).isNone, ?_, rfl, e2, rfl⟩
    cases wUp (i : Int) w <;> rfl
  · rw [filter_tt]
    walk_at "w"
    refine ⟨(List.range n).map fun (i : Nat) => (wUp (i : Int) w).isNone, ?_, _, rfl, ?_⟩
    · rw [List.map_map]
      rfl
    · rw [List.all_map]
      exact h
def W_is_high_word : Wf := W_wrd fun n w => .bool (highF n w)
theorem w_is_high_word {C : Cn} {A : Ads} {ds : List PyData} {Φ : PyData → Prop} (h : W_is_high_word ds Φ C.Psi) : wps C (t_is_high_word C.K A (spP C.K C.cl W_need_many) (spP C.K C.cl W_is_high) (spP C.K C.cl W_need_letters) C.EX) (start0 (ds.map .d) 2 0) (DD Φ) :=
  wrd_use h fun n w Φ hn hl h => ⟨n, w, rfl, hn, hl, h⟩
end P75
set_option Elab.async false
set_option linter.all false
set_option maxRecDepth 100000
set_option maxHeartbeats 4000000
namespace P75
open PySem L2 Evl DL RZ
local macro_rules | `(tactic| walk_at "wx") => `(tactic| first | (refine wpe_var rfl rfl ?_) | (refine wpe_int ?_) | (refine wpe_str ?_) | (refine wpe_non ?_) | (refine wpe_bl ?_) | (refine wpe_ty ?_) | (refine wpe_ref ?_) | with_reducible refine wpe_add ?_ | with_reducible refine wpe_sub ?_ | with_reducible refine wpe_mul ?_ | with_reducible refine wpe_mod ?_ | with_reducible refine wpe_fdiv ?_ | with_reducible refine wpe_pow ?_ | with_reducible refine wpe_lt ?_ | with_reducible refine wpe_le ?_ | with_reducible refine wpe_gt ?_ | with_reducible refine wpe_ge ?_ | with_reducible refine wpe_eqS ?_ | with_reducible refine wpe_neS ?_ | with_reducible refine wpe_neg ?_ | with_reducible refine wpe_chainLeLt ?_ | with_reducible refine wpe_chainLeLe ?_ | with_reducible refine wpe_eqD ?_ | with_reducible refine wpe_neD ?_ | with_reducible refine wpe_isNn ?_ | with_reducible refine wpe_notNn ?_ | with_reducible refine wpe_inI ?_ | with_reducible refine wpe_if ?_ | with_reducible refine wpe_andV ?_ | with_reducible refine wpe_orV ?_ | with_reducible refine wpe_notV ?_ | with_reducible refine wpe_ix ?_ | with_reducible refine wpe_slL ?_ | with_reducible refine wpe_slA ?_ | with_reducible refine wpe_cat ?_ | with_reducible refine wpe_catA ?_ | with_reducible refine wpe_rep ?_ | with_reducible refine wpe_isiR ?_ | (refine wpe_isiI (by simp) ?_) | with_reducible refine wpe_len ?_ | with_reducible refine wpe_listOf ?_ | with_reducible refine wpe_tupleOf ?_ | with_reducible refine wpe_all ?_ | with_reducible refine wpe_any ?_ | with_reducible refine wpe_sum ?_ | with_reducible refine wpe_max ?_ | with_reducible refine wpe_sortedI ?_ | with_reducible refine wpe_intOf ?_ | with_reducible refine wpe_isi ?_ | with_reducible refine wpe_count ?_ | with_reducible refine wpe_pop ?_ | with_reducible refine wpe_tup ?_ | with_reducible refine wpe_lst ?_ | (refine wpa_nil ?_) | with_reducible refine wpa_cons ?_ | (refine wpo_none ?_) | with_reducible refine wpo_some ?_ | with_reducible refine wpt_test ?_ | with_reducible refine wpt_B ?_ | with_reducible refine wpt_and ?_ | with_reducible refine wpt_or ?_ | with_reducible refine wpt_not ?_ | (refine wpt_yes ?_) | with_reducible refine wps_seq ?_ | with_reducible refine wps_set ?_ | with_reducible refine wps_ret ?_ | with_reducible refine wps_if ?_ | with_reducible refine wps_par ?_ | with_reducible refine wps_app ?_ | (refine wps_next ?_) | (refine wps_brk ?_) | (refine wps_cont ?_) | (refine wps_retN ?_) | with_reducible refine wps_drop ?_ | with_reducible refine wps_asg ?_)
local macro_rules | `(tactic| walk_at "w") => `(tactic| (walk_at "wx"; repeat (walk_at "wx")))
local macro_rules | `(tactic| walk_at "gx") => `(tactic| first | (walk_at "wx") | with_reducible refine wpe_cA1 ?_ | with_reducible refine wpe_cA2 ?_ | with_reducible refine wpe_cA3 ?_ | with_reducible refine wpe_cB1 ?_ | with_reducible refine wpe_cB2 ?_ | with_reducible refine wpe_cB3 ?_ | with_reducible refine wpe_cB4 ?_ | with_reducible refine wpe_cB5 ?_ | (refine ⟨_, rfl, ?_⟩) | (refine ⟨_, _, rfl, rfl, ?_⟩) | (refine ⟨_, _, _, rfl, rfl, rfl, ?_⟩) | (refine ⟨_, _, _, _, rfl, rfl, rfl, rfl, rfl, ?_⟩) | (refine ⟨_, _, _, _, rfl, rfl, rfl, rfl, ?_⟩) | (refine ⟨_, _, _, _, _, rfl, rfl, rfl, rfl, rfl, ?_⟩) | (refine ⟨_, _, rfl, ?_⟩))
local macro_rules | `(tactic| walk_at "g") => `(tactic| (walk_at "gx"; repeat (walk_at "gx")))
/-! ### webs -/
abbrev Row := List (Option Nat)
def oD : Option Nat → PyData
  | none => .none
  | some k => .int (k : Int)
def rowD (r : Row) : List PyData := r.map oD
def ringGo (r : Row) : Nat → Nat → Option Nat
  | 0, _ => none
  | f + 1, p => match r[p]? with
    | some none => some 1
    | some (some q) => (ringGo r f q).map (· + 1)
    | none => none
/-- the way from p on: how many points -/
def wayF (r : Row) (p : Nat) : Option Nat := ringGo r (r.length + 1) p
def endsF (r : Row) : List Nat := r.filterMap id
def startsF (r : Row) : List Nat := (List.range r.length).filter fun p => !(endsF r).contains p
def ringOk (r : Row) : Bool := (startsF r).all fun p => (wayF r p).isSome
def ringF (r : Row) : Bool := decide (((startsF r).map fun p => (wayF r p).getD 0).sum < r.length)
def twoF (r : Row) : Bool := !decide (endsF r).Nodup
def okRow (m : Nat) (r : Row) : Bool := decide (r.length = m) && r.all fun e => match e with
  | none => true
  | some q => decide (q < m)
def manyF (rs : List Row) : Nat := (rs.headD []).length
def okW (rs : List Row) : Bool := decide (1 ≤ rs.length) && decide (rs.length ≤ 5) && decide (1 ≤ manyF rs) && decide (manyF rs ≤ 400) && rs.all fun r => okRow (manyF rs) r && !twoF r && ringOk r && !ringF r
def LL (rs : List Row) : PyData := .list (rs.map fun r => .list (rowD r))
def webD (rs : List Row) : PyData := inst "Web" [("arrows", .tuple (rs.map fun r => .tuple (rowD r))), ("colours", .int (rs.length : Int)), ("many", .int (manyF rs : Int))]
local macro_rules | `(tactic| walk_at "ln") => `(tactic| first | omega | (simp [LL, rowD, iL, iN]; done) | (simp [LL, rowD, iL, iN]; omega) | (simp [LL, rowD, iL, iN] at *; omega))
def W_are_rows : Wf := fun ds Φ _ => ∃ rs, ds = [LL rs] ∧ okW rs = true ∧ Φ (.bool true)
theorem okW_iff {rs : List Row} (h : okW rs = true) : 1 ≤ rs.length ∧ rs.length ≤ 5 ∧ 1 ≤ manyF rs ∧ manyF rs ≤ 400 ∧ ∀ r ∈ rs, r.length = manyF rs ∧ (∀ q, some q ∈ r → q < manyF rs) ∧ twoF r = false ∧ ringOk r = true ∧ ringF r = false := by
  unfold okW at h
  simp only [Bool.and_eq_true, decide_eq_true_eq, List.all_eq_true, Bool.not_eq_true', okRow] at h
  obtain ⟨⟨⟨⟨h1, h2⟩, h3⟩, h4⟩, h5⟩ := h
  refine ⟨h1, h2, h3, h4, fun r hr => ?_⟩
  obtain ⟨⟨⟨⟨a1, a2⟩, a3⟩, a4⟩, a5⟩ := h5 r hr
  exact ⟨a1, fun q hq => by simpa using a2 _ hq, a3, a4, a5⟩
theorem rowD_len (r : Row) : (rowD r).length = r.length := by simp [rowD]
theorem head_at {rs : List Row} (h : 1 ≤ rs.length) : ∃ r, rs[0]? = some r ∧ r.length = manyF rs := by
  cases rs with
  | nil => simp at h
  | cons r rs => exact ⟨r, rfl, rfl⟩
theorem w_are_rows {C : Cn} {A : Ads} {ds : List PyData} {Φ : PyData → Prop} {Ψ : Er → Prop} (h : W_are_rows ds Φ Ψ) : wps C (t_are_rows C.K A (spP C.K C.cl W_is_row)) (start0 (ds.map .d) 2 0) (DD Φ) := by
  obtain ⟨rs, rfl, ho, h⟩ := h
  obtain ⟨h1, h2, h3, h4, h5⟩ := okW_iff ho
  unfold t_are_rows
  walk_at "g"
  refine ⟨rfl, _, rfl, fun _ => ?_, fun e => nomatch e⟩
  walk_at "g"
  refine ⟨fun _ => ?_, fun e => absurd e (by walk_at "ln")⟩
  walk_at "g"
  refine ⟨fun _ => ?_, fun e => absurd e (by walk_at "ln")⟩
  walk_at "w"
  refine wpe_lcP rs (fun r => .list (rowD r)) (fun _ => true) (fun _ => .bool true) (tgw_name (by simp)) ?_
  refine wpi_list ?_
  walk_at "w"
  refine ⟨_, rfl, rfl, by omega, ?_, ?_⟩
  · rintro r hr ⟨sl, ms, c⟩ e1 e2 e3
    have e1 : sl = _ := e1
    subst e1
    refine wpg_name ?_
    walk_at "w"
    refine ⟨rfl, e2, rfl, fun _ => ?_⟩
    walk_at "g"
    exact ⟨rfl, rfl, e2, rfl⟩
  rw [filter_tt]
  walk_at "w"
  refine ⟨rs.map fun _ => true, by rw [List.map_map]; rfl, _, rfl, fun e => ?_, fun _ => ?_⟩
  · exfalso
    have : (rs.map fun _ => true).all id = true := by simp
    rw [this] at e
    cases e
  walk_at "w"
  refine wpe_lcP rs (fun r => .list (rowD r)) (fun _ => true) (fun _ => .bool true) (tgw_name (by simp)) ?_
  refine wpi_list ?_
  walk_at "w"
  refine ⟨_, rfl, rfl, by omega, ?_, ?_⟩
  · rintro r hr ⟨sl, ms, c⟩ e1 e2 e3
    have e1 : sl = _ := e1
    subst e1
    obtain ⟨l1, _⟩ := h5 r hr
    obtain ⟨r0, hr0, l0⟩ := head_at h1
    refine wpg_name ?_
    walk_at "w"
    refine ⟨rfl, e2, rfl, fun _ => ?_⟩
    walk_at "g"
    refine ⟨fun _ => ?_, fun e => absurd e (by walk_at "ln")⟩
    walk_at "g"
    refine ⟨fun _ => ?_, fun e => absurd e (by walk_at "ln")⟩
    walk_at "g"
    refine ⟨(rs.map fun r => .list (rowD r)).map .d, 0, .d (.list (rowD r0)), rfl, rfl, atI_d (atI_nat (by decide) (by rw [List.getElem?_map, show (0 : Int).toNat = 0 from rfl, hr0]; rfl)), ?_⟩
    walk_at "g"
    refine ⟨?_, e2, rfl⟩
    simp only [List.length_map, rowD_len, l1, l0, decide_true]
  · rw [filter_tt]
    walk_at "w"
    refine ⟨rs.map fun _ => true, by rw [List.map_map]; rfl, _, rfl, ?_⟩
    have : (rs.map fun _ => true).all id = true := by simp
    rw [this]
    exact h
/-- the ends, sorted: two alike stand side by side -/
theorem pair_dup : ∀ {l : List Int}, l.Pairwise (· ≤ ·) → (((l.zip (l.drop 1)).map fun p => decide (p.1 = p.2)).any id = !decide l.Nodup)
  | [], _ => by simp
  | [a], _ => by simp
  | a :: b :: l, h => by
    have ih := pair_dup (l := b :: l) (List.pairwise_cons.mp h).2
    have h1 := (List.pairwise_cons.mp h).1
    simp only [List.drop_succ_cons, List.drop_zero] at ih ⊢
    rw [List.zip_cons_cons, List.map_cons, List.any_cons, ih]
    by_cases e : a = b
    · subst e
      simp
    · have hn : a ∉ b :: l := fun hm => by
        rcases List.mem_cons.mp hm with q | q
        · exact e q
        · have h2 := (List.pairwise_cons.mp (List.pairwise_cons.mp h).2).1 a q
          have h3 := h1 b List.mem_cons_self
          omega
      simp only [id_eq, decide_eq_false e, Bool.false_or]
      rw [show (decide (a :: b :: l).Nodup) = decide (b :: l).Nodup from by
        rw [decide_eq_decide, List.nodup_cons]
        exact ⟨fun h => h.2, fun h => ⟨hn, h⟩⟩]
def W_has_two : Wf := fun ds Φ _ => ∃ r : Row, ds = [.list (rowD r)] ∧ r.length ≤ 400 ∧ Φ (.bool (twoF r))
def iLN (xs : List Nat) : List Int := xs.map fun (k : Nat) => (k : Int)
theorem w_has_two {C : Cn} {A : Ads} {ds : List PyData} {Φ : PyData → Prop} {Ψ : Er → Prop} (h : W_has_two ds Φ Ψ) : wps C (t_has_two C.K A) (start0 (ds.map .d) 5 0) (DD Φ) := by
  obtain ⟨r, rfl, hl, h⟩ := h
  unfold t_has_two
  walk_at "w"
  refine wpe_lcP r oD (fun e => e.isSome) oD (tgw_name (by simp)) ?_
  refine wpi_list ?_
  walk_at "w"
  refine ⟨_, rfl, rfl, by omega, ?_, ?_⟩
  · rintro e he ⟨sl, ms, c⟩ e1 e2 e3
    have e1 : sl = _ := e1
    subst e1
    refine wpg_name ?_
    cases e with
    | none =>
      walk_at "w"
      exact ⟨true, rfl, _, rfl, rfl, e2, rfl, fun e => nomatch e⟩
    | some q =>
      walk_at "w"
      refine ⟨false, rfl, _, rfl, rfl, e2, rfl, fun _ => ?_⟩
      walk_at "w"
      exact ⟨rfl, e2, rfl⟩
  walk_at "w"
  have ed : (r.filter fun e => e.isSome).map oD = (iLN (endsF r)).map PyData.int := by
    unfold endsF iLN
    clear h hl
    induction r with
    | nil => rfl
    | cons e r ih =>
      cases e with
      | none => simpa using ih
      | some q => simpa [oD] using ih
  refine ⟨iLN (endsF r), by rw [ed], fun ms hp hs => ?_⟩
  walk_at "w"
  refine wpe_lcP (α := Int × Int) (ms.zip (ms.drop 1)) (fun p => .tuple [.int p.1, .int p.2]) (fun _ => true) (fun p => .bool (decide (p.1 = p.2))) (tgw_tup2 (by simp) (by simp)) ?_
  refine wpi_zip ?_
  have hml : ms.length ≤ 400 := by
    rw [hp.length_eq, iLN, List.length_map]
    exact Nat.le_trans (List.length_filterMap_le _ _) hl
  walk_at "g"
  refine ⟨?_, ?_, ?_, ?_⟩
  · rw [← zipD_iL]
    congr 1
    rw [show (1 : Int) = ((1 : Nat) : Int) from rfl, cut_from _ 1, iL, List.map_drop]
  · rw [List.length_zip]
    have := Nat.min_le_left ms.length (ms.drop 1).length
    omega
  · rintro ⟨x, y⟩ hx ⟨sl, ms, c⟩ e1 e2 e3
    have e1 : sl = _ := e1
    subst e1
    refine wpg_tup2 ?_
    walk_at "w"
    refine ⟨rfl, e2, rfl, fun _ => ?_⟩
    walk_at "w"
    refine ⟨_, _, _, _, rfl, rfl, rfl, rfl, rfl, ?_, e2, rfl⟩
    simp
  · rw [filter_tt]
    walk_at "w"
    refine ⟨(ms.zip (ms.drop 1)).map fun p => decide (p.1 = p.2), by rw [List.map_map]; rfl, _, rfl, ?_⟩
    rw [pair_dup hs]
    have : decide ms.Nodup = decide (endsF r).Nodup := by
      rw [decide_eq_decide, hp.nodup_iff, iLN]
      refine ⟨fun h => ?_, fun h => ?_⟩
      · exact (List.pairwise_map.mp h).imp fun h e => h (congrArg _ e)
      · exact List.pairwise_map.mpr (h.imp fun h e => h (Int.ofNat_inj.mp e))
    rw [this]
    exact h
end P75
set_option Elab.async false
set_option linter.all false
set_option maxRecDepth 100000
set_option maxHeartbeats 4000000
namespace P75
open PySem L2 Evl DL RZ
local macro_rules | `(tactic| walk_at "wx") => `(tactic| first | (refine wpe_var rfl rfl ?_) | (refine wpe_int ?_) | (refine wpe_str ?_) | (refine wpe_non ?_) | (refine wpe_bl ?_) | (refine wpe_ty ?_) | (refine wpe_ref ?_) | with_reducible refine wpe_add ?_ | with_reducible refine wpe_sub ?_ | with_reducible refine wpe_mul ?_ | with_reducible refine wpe_mod ?_ | with_reducible refine wpe_fdiv ?_ | with_reducible refine wpe_pow ?_ | with_reducible refine wpe_lt ?_ | with_reducible refine wpe_le ?_ | with_reducible refine wpe_gt ?_ | with_reducible refine wpe_ge ?_ | with_reducible refine wpe_eqS ?_ | with_reducible refine wpe_neS ?_ | with_reducible refine wpe_neg ?_ | with_reducible refine wpe_chainLeLt ?_ | with_reducible refine wpe_chainLeLe ?_ | with_reducible refine wpe_eqD ?_ | with_reducible refine wpe_neD ?_ | with_reducible refine wpe_isNn ?_ | with_reducible refine wpe_notNn ?_ | with_reducible refine wpe_inI ?_ | with_reducible refine wpe_if ?_ | with_reducible refine wpe_andV ?_ | with_reducible refine wpe_orV ?_ | with_reducible refine wpe_notV ?_ | with_reducible refine wpe_ix ?_ | with_reducible refine wpe_slL ?_ | with_reducible refine wpe_slA ?_ | with_reducible refine wpe_cat ?_ | with_reducible refine wpe_catA ?_ | with_reducible refine wpe_rep ?_ | with_reducible refine wpe_isiR ?_ | (refine wpe_isiI (by simp) ?_) | with_reducible refine wpe_len ?_ | with_reducible refine wpe_listOf ?_ | with_reducible refine wpe_tupleOf ?_ | with_reducible refine wpe_all ?_ | with_reducible refine wpe_any ?_ | with_reducible refine wpe_sum ?_ | with_reducible refine wpe_max ?_ | with_reducible refine wpe_sortedI ?_ | with_reducible refine wpe_intOf ?_ | with_reducible refine wpe_isi ?_ | with_reducible refine wpe_count ?_ | with_reducible refine wpe_pop ?_ | with_reducible refine wpe_tup ?_ | with_reducible refine wpe_lst ?_ | (refine wpa_nil ?_) | with_reducible refine wpa_cons ?_ | (refine wpo_none ?_) | with_reducible refine wpo_some ?_ | with_reducible refine wpt_test ?_ | with_reducible refine wpt_B ?_ | with_reducible refine wpt_and ?_ | with_reducible refine wpt_or ?_ | with_reducible refine wpt_not ?_ | (refine wpt_yes ?_) | with_reducible refine wps_seq ?_ | with_reducible refine wps_set ?_ | with_reducible refine wps_ret ?_ | with_reducible refine wps_if ?_ | with_reducible refine wps_par ?_ | with_reducible refine wps_app ?_ | (refine wps_next ?_) | (refine wps_brk ?_) | (refine wps_cont ?_) | (refine wps_retN ?_) | with_reducible refine wps_drop ?_ | with_reducible refine wps_asg ?_)
local macro_rules | `(tactic| walk_at "w") => `(tactic| (walk_at "wx"; repeat (walk_at "wx")))
local macro_rules | `(tactic| walk_at "gx") => `(tactic| first | (walk_at "wx") | with_reducible refine wpe_cA1 ?_ | with_reducible refine wpe_cA2 ?_ | with_reducible refine wpe_cA3 ?_ | with_reducible refine wpe_cB1 ?_ | with_reducible refine wpe_cB2 ?_ | with_reducible refine wpe_cB3 ?_ | with_reducible refine wpe_cB4 ?_ | with_reducible refine wpe_cB5 ?_ | (refine ⟨_, rfl, ?_⟩) | (refine ⟨_, _, rfl, rfl, ?_⟩) | (refine ⟨_, _, _, rfl, rfl, rfl, ?_⟩) | (refine ⟨_, _, _, _, rfl, rfl, rfl, rfl, rfl, ?_⟩) | (refine ⟨_, _, _, _, rfl, rfl, rfl, rfl, ?_⟩) | (refine ⟨_, _, _, _, _, rfl, rfl, rfl, rfl, rfl, ?_⟩) | (refine ⟨_, _, rfl, ?_⟩))
local macro_rules | `(tactic| walk_at "g") => `(tactic| (walk_at "gx"; repeat (walk_at "gx")))
local macro_rules | `(tactic| walk_at "ln") => `(tactic| first | omega | (simp [LL, rowD, iL, iN]; done) | (simp [LL, rowD, iL, iN]; omega) | (simp [LL, rowD, iL, iN] at *; omega))
/-! ### rings -/
theorem putG_any {β : Type} {es : List (L2.Key × β)} {k k' : L2.Key} {v : β} : ((putG es k v).any fun p => decide (p.1 = k')) = ((es.any fun p => decide (p.1 = k')) || decide (k = k')) := by
  unfold putG
  split
  · rename_i h
    have e1 : ((es.map fun p => if p.1 = k then (p.1, v) else p).any fun p => decide (p.1 = k')) = es.any fun p => decide (p.1 = k') := by
      rw [List.any_map]
      refine congrArg (fun f => es.any f) (funext fun p => ?_)
      show decide ((if p.1 = k then (p.1, v) else p).1 = k') = _
      split <;> rfl
    rw [e1]
    by_cases e : k = k'
    · subst e
      rw [h]
      rfl
    · rw [decide_eq_false e, Bool.or_false]
  · rw [List.any_append]
    simp
theorem dc_any {α : Type} {b : α → Bool} {kf : α → L2.Key} {vf : α → PyData} {k : L2.Key} : ∀ {xs : List α} {es : List (L2.Key × PyData)}, ((xs.foldl (dcF b kf vf) es).any fun p => decide (p.1 = k)) = ((es.any fun p => decide (p.1 = k)) || xs.any fun x => b x && decide (kf x = k))
  | [], es => by simp
  | x :: xs, es => by
    rw [List.foldl_cons, dc_any, List.any_cons, ← Bool.or_assoc]
    congr 1
    unfold dcF
    cases b x with
    | true => simp [putG_any]
    | false => simp
def W_has_ring : Wf := fun ds Φ _ => ∃ r : Row, ds = [.list (rowD r)] ∧ r.length ≤ 400 ∧ (∀ q, some q ∈ r → q < r.length) ∧ ringOk r = true ∧ Φ (.bool (ringF r))
theorem any_end (r : Row) (p : Nat) : (r.any fun e => e.isSome && decide ((Sum.inl (match e with | some q => (q : Int) | none => 0) : L2.Key) = .inl (p : Int))) = (endsF r).contains p := by
  unfold endsF
  induction r with
  | nil => rfl
  | cons e r ih =>
    rw [List.any_cons, ih]
    cases e with
    | none => rfl
    | some q =>
      show (true && decide ((Sum.inl (q : Int) : L2.Key) = Sum.inl (p : Int)) || _) = (q :: List.filterMap id r).contains p
      rw [List.contains_cons, Bool.true_and]
      congr 1
      by_cases e : q = p
      · subst e
        simp
      · rw [decide_eq_false (fun z => e (Int.ofNat_inj.mp (by simpa using z)))]
        have e : ¬ p = q := fun z => e z.symm
        simp [e]
/-- what is left of the way -/
def left0 (r : Row) (f : Nat) : Option Nat → Option Nat
  | none => some 0
  | some p => ringGo r f p
theorem row_get {r : Row} {p : Nat} {x : Option Nat} (h : r[p]? = some x) : atI ((rowD r).map W.d) (p : Int) = some (.d (oD x)) :=
  atI_d (atI_nat (Int.natCast_nonneg p) (by rw [Int.toNat_natCast, rowD, List.getElem?_map, h]; rfl))
theorem oD_isN (x : Option Nat) : (W.d (oD x)).isN = some x.isNone := by cases x <;> rfl
theorem w_has_ring {C : Cn} {A : Ads} {ds : List PyData} {Φ : PyData → Prop} {Ψ : Er → Prop} (h : W_has_ring ds Φ Ψ) : wps C (t_has_ring C.K A) (start0 (ds.map .d) 6 0) (DD Φ) := by
  obtain ⟨r, rfl, hl, hq, hr, h⟩ := h
  unfold t_has_ring
  walk_at "w"
  refine wpe_dcP r oD (fun e => e.isSome) (fun e => .inl (match e with | some q => (q : Int) | none => 0)) (fun _ => .bool true) (tgw_name (by simp)) ?_
  refine wpi_list ?_
  walk_at "w"
  refine ⟨_, rfl, rfl, by omega, ?_, ?_⟩
  · rintro e he ⟨sl, ms, c⟩ e1 e2 e3
    have e1 : sl = _ := e1
    subst e1
    refine wpg_name ?_
    cases e with
    | none =>
      walk_at "w"
      exact ⟨true, rfl, _, rfl, rfl, e2, e3, fun e => nomatch e⟩
    | some q =>
      walk_at "w"
      refine ⟨false, rfl, _, rfl, rfl, e2, e3, fun _ => ?_⟩
      walk_at "w"
      refine ⟨rfl, ?_⟩
      walk_at "w"
      exact ⟨rfl, e2, e3⟩
  generalize hes : r.foldl (dcF (fun e => e.isSome) (fun e => Sum.inl (match e with | some q => (q : Int) | none => 0)) fun _ => PyData.bool true) [] = es
  have hmem : ∀ p : Nat, (es.any fun x => decide (x.1 = .inl (p : Int))) = (endsF r).contains p := fun p => by
    rw [← hes, dc_any]
    simp only [List.any_nil, Bool.false_or]
    exact any_end r p
  walk_at "w"
  let seenF : Nat → Nat := fun j => (((List.range j).filter fun p => !(endsF r).contains p).map fun p => (wayF r p).getD 0).sum
  have way_ok : ∀ p, p < r.length → (endsF r).contains p = false → (wayF r p).isSome = true := fun p hp he => by
    have := List.all_eq_true.mp hr p (List.mem_filter.mpr ⟨List.mem_range.mpr hp, by rw [he]; rfl⟩)
    exact this
  refine wps_for (items := rng 0 r.length) (fun j s => ∃ w3 w4 w5, s = ⟨[.d (.list (rowD r)), .d (dct es), .d (.int (seenF j : Int)), w3, w4, w5], [], 0⟩) ?_ ?_ ?_
  · refine wpi_rng1 ?_
    walk_at "w"
    refine ⟨_, _, rfl, rfl, ?_⟩
    walk_at "w"
    refine ⟨_, rfl, by walk_at "ln", by walk_at "ln", ?_, _, _, _, rfl⟩
    simp [rowD]
  · rintro j d s1 hd ⟨w3, w4, w5, rfl⟩
    obtain ⟨hj, rfl⟩ := rng_get hd
    rw [Int.zero_add]
    refine wpg_name ?_
    walk_at "w"
    refine wpe_dNotIn ?_
    walk_at "w"
    refine ⟨.inl (j : Int), es, rfl, rfl, _, rfl, fun e => ?_, fun e => ?_⟩
    · have e : (endsF r).contains j = false := by
        rw [hmem] at e
        simpa using e
      obtain ⟨k, hk⟩ := Option.isSome_iff_exists.mp (way_ok j hj e)
      have es1 : seenF (j + 1) = seenF j + k := by
        simp only [seenF, List.range_succ, List.filter_append, List.map_append, List.sum_append]
        rw [List.filter_cons, if_pos (by rw [e]; rfl)]
        simp [hk]
      walk_at "w"
      refine wps_while (fun f s => ∃ (here : Option Nat) (seen k' : Nat) (w3 w5 : W), s = ⟨[.d (.list (rowD r)), .d (dct es), .d (.int (seen : Int)), w3, .d (oD here), w5], [], 0⟩ ∧ left0 r f here = some k' ∧ seen + k' = seenF (j + 1)) (r.length + 1)
        ⟨some j, seenF j, k, .d (.int (j : Int)), w5, rfl, hk, es1.symm⟩ ?_
      rintro f s1 ⟨here, seen, k', w3, w5, rfl, hlf, hsk⟩
      walk_at "w"
      refine ⟨_, oD_isN here, _, rfl, fun e => ?_, fun e => ?_⟩
      · cases here with
        | none => simp at e
        | some p =>
          cases f with
          | zero => simp [left0, ringGo] at hlf
          | succ f =>
            have hlf : (match r[p]? with
              | some none => some 1
              | some (some q) => (ringGo r f q).map (· + 1)
              | none => none) = some k' := hlf
            cases hx : r[p]? with
            | none => simp [hx] at hlf
            | some x =>
              walk_at "w"
              refine ⟨_, _, rfl, rfl, ?_⟩
              walk_at "w"
              refine ⟨_, _, _, rfl, rfl, row_get hx, f, by omega, x, seen + 1, k' - 1, w3, w5, ?_, ?_⟩
              · show _ = (⟨[_, _, .d (.int ((seen + 1 : Nat) : Int)), _, _, _], [], 0⟩ : S)
                rw [Int.natCast_add]
                rfl
              · cases x with
                | none =>
                  simp only [hx] at hlf
                  cases hlf
                  exact ⟨rfl, by omega⟩
                | some q =>
                  simp only [hx] at hlf
                  cases hq2 : ringGo r f q with
                  | none => simp [hq2] at hlf
                  | some k2 =>
                    simp only [hq2, Option.map_some, Option.some.injEq] at hlf
                    subst hlf
                    exact ⟨by simpa [left0] using hq2, by omega⟩
      · cases here with
        | some p => simp at e
        | none =>
          cases hlf
          have : seen = seenF (j + 1) := by omega
          subst this
          exact ⟨_, _, _, rfl⟩
    · have e : (endsF r).contains j = true := by
        rw [hmem] at e
        simpa using e
      have es1 : seenF (j + 1) = seenF j := by
        simp only [seenF, List.range_succ, List.filter_append, List.map_append, List.sum_append]
        rw [List.filter_cons, if_neg (by rw [e]; exact Bool.false_ne_true)]
        simp
      rw [es1]
      walk_at "w"
      exact ⟨_, _, _, rfl⟩
  · rintro s1 ⟨w3, w4, w5, rfl⟩
    walk_at "g"
    rw [rng_len]
    have : ringF r = decide (((seenF r.length : Nat) : Int) < ((rowD r).map W.d).length) := by
      simp only [ringF, startsF, seenF, List.length_map, rowD_len]
      exact decide_eq_decide.mpr Int.ofNat_lt.symm
    rw [← this]
    exact h
/-! ### a web is made -/
def W_wrong_arrows : Wf := fun ds Φ _ => ∃ rs, ds = [LL rs] ∧ okW rs = true ∧ Φ .none
theorem w_wrong_arrows {C : Cn} {A : Ads} {ds : List PyData} {Φ : PyData → Prop} {Ψ : Er → Prop} (h : W_wrong_arrows ds Φ Ψ) : wps C (t_wrong_arrows C.K A (spP C.K C.cl W_are_rows) (spP C.K C.cl W_is_point) (spP C.K C.cl W_has_two) (spP C.K C.cl W_has_ring)) (start0 (ds.map .d) 4 0) (DD Φ) := by
  obtain ⟨rs, rfl, ho, h⟩ := h
  obtain ⟨h1, h2, h3, h4, h5⟩ := okW_iff ho
  obtain ⟨r0, hr0, l0⟩ := head_at h1
  unfold t_wrong_arrows
  walk_at "g"
  refine ⟨ho, _, rfl, fun e => (nomatch e), fun _ => ?_⟩
  walk_at "g"
  refine ⟨(rs.map fun r => .list (rowD r)).map .d, 0, .d (.list (rowD r0)), rfl, rfl, atI_d (atI_nat (by decide) (by rw [List.getElem?_map, show (0 : Int).toNat = 0 from rfl, hr0]; rfl)), ?_⟩
  walk_at "g"
  rw [List.length_map, rowD_len, l0]
  refine wpe_lc2P rs (fun r => .list (rowD r)) (fun _ => true) (fun r => r) (fun _ e => oD e) (fun _ _ => true) (fun _ _ => .bool true) 400 (tgw_name (by simp)) (tgw_name (by simp)) ?_
  refine wpi_list ?_
  walk_at "w"
  refine ⟨_, rfl, rfl, by omega, by omega, fun r hr => ?_, ?_⟩
  · obtain ⟨l1, hq, t1, t2, t3⟩ := h5 r hr
    refine ⟨by omega, ?_⟩
    rintro ⟨sl, ms, c⟩ e1 e2 e3
    have e1 : sl = _ := e1
    subst e1
    refine wpg_name ?_
    walk_at "w"
    refine ⟨rfl, e2, rfl, fun _ => ?_⟩
    refine wpi_list ?_
    walk_at "w"
    refine ⟨_, rfl, rfl, e2, rfl, ?_⟩
    rintro e he ⟨sl2, ms2, c2⟩ e4 e5 e6
    have e4 : sl2 = _ := e4
    subst e4
    refine wpg_name ?_
    walk_at "w"
    refine ⟨rfl, e5, rfl, fun _ => ?_⟩
    walk_at "w"
    refine ⟨_, oD_isN e, _, rfl, fun en => ?_, fun en => ?_⟩
    · cases e with
      | none => cases en
      | some q =>
        walk_at "g"
        refine ⟨?_, e5, rfl⟩
        have : q < manyF rs := hq q he
        simp [isPt, oD]
        omega
    · exact ⟨rfl, e5, rfl⟩
  have efl : ((rs.filter fun _ => true).flatMap fun r => (r.filter fun _ => true).map fun _ => PyData.bool true) = (rs.flatMap fun r => r.map fun _ => true).map PyData.bool := by
    simp only [filter_tt, List.map_flatMap, List.map_map]
    rfl
  rw [efl]
  walk_at "w"
  refine ⟨_, rfl, _, rfl, fun e => ?_, fun _ => ?_⟩
  · exfalso
    have : (rs.flatMap fun r => r.map fun _ => true).all id = true := by simp
    rw [this] at e
    cases e
  walk_at "w"
  refine wpe_lcP rs (fun r => .list (rowD r)) (fun _ => true) (fun _ => .bool false) (tgw_name (by simp)) ?_
  refine wpi_list ?_
  walk_at "w"
  refine ⟨_, rfl, rfl, by omega, ?_, ?_⟩
  · rintro r hr ⟨sl, ms, c⟩ e1 e2 e3
    have e1 : sl = _ := e1
    subst e1
    obtain ⟨l1, hq, t1, t2, t3⟩ := h5 r hr
    refine wpg_name ?_
    walk_at "w"
    refine ⟨rfl, e2, rfl, fun _ => ?_⟩
    walk_at "g"
    exact ⟨by omega, by rw [t1], e2, rfl⟩
  rw [filter_tt]
  walk_at "w"
  refine ⟨rs.map fun _ => false, by rw [List.map_map]; rfl, _, rfl, fun e => ?_, fun _ => ?_⟩
  · exfalso
    have : (rs.map fun _ => false).any id = false := by simp
    rw [this] at e
    cases e
  walk_at "w"
  refine wpe_lcP rs (fun r => .list (rowD r)) (fun _ => true) (fun _ => .bool false) (tgw_name (by simp)) ?_
  refine wpi_list ?_
  walk_at "w"
  refine ⟨_, rfl, rfl, by omega, ?_, ?_⟩
  · rintro r hr ⟨sl, ms, c⟩ e1 e2 e3
    have e1 : sl = _ := e1
    subst e1
    obtain ⟨l1, hq, t1, t2, t3⟩ := h5 r hr
    refine wpg_name ?_
    walk_at "w"
    refine ⟨rfl, e2, rfl, fun _ => ?_⟩
    walk_at "g"
    exact ⟨by omega, fun q hm => by rw [l1]; exact hq q hm, t2, by rw [t3], e2, rfl⟩
  rw [filter_tt]
  walk_at "w"
  refine ⟨rs.map fun _ => false, by rw [List.map_map]; rfl, _, rfl, fun e => ?_, fun _ => ?_⟩
  · exfalso
    have : (rs.map fun _ => false).any id = false := by simp
    rw [this] at e
    cases e
  walk_at "g"
  exact h
def W_Web : Wf := fun ds Φ _ => ∃ rs, ds = [LL rs] ∧ okW rs = true ∧ Φ (webD rs)
def AA (rs : List Row) : PyData := .tuple (rs.map fun r => .tuple (rowD r))
def webS (rs : List Row) : Nat → List (Str × PyData)
  | 0 => []
  | 1 => [("arrows", AA rs)]
  | 2 => [("arrows", AA rs), ("colours", .int (rs.length : Int))]
  | _ => [("arrows", AA rs), ("colours", .int (rs.length : Int)), ("many", .int (manyF rs : Int))]
abbrev fWeb : List Str := ["arrows", "colours", "many"]
theorem w_Web_init {C : Cn} {A : Ads} {rs : List Row} {Φ : PyData → Prop} (O : OwnC C.K C.cl "Web" A.c_Web fWeb) (hpk : C.pk = pkI C.K C.cl A.c_Web (webS rs)) (ho : okW rs = true) (h : Φ (webD rs)) {X5 : Sp} :
    wps C (t_Web_init C.K A (spP C.K C.cl W_wrong_arrows) X5 C.EX) (start0 (.pen :: [LL rs].map .d) 4 0) { nx := fun s => Φ (inst "Web" (webS rs s.c)), rt := fun w s => w = .d .none ∧ Φ (inst "Web" (webS rs s.c)) } := by
  obtain ⟨h1, h2, h3, h4, h5⟩ := okW_iff ho
  obtain ⟨r0, hr0, l0⟩ := head_at h1
  unfold t_Web_init
  walk_at "g"
  refine ⟨ho, ?_⟩
  walk_at "g"
  refine ⟨fun e => (nomatch e), fun _ => ?_⟩
  walk_at "g"
  refine wps_fld O (by simp) hpk ?_
  walk_at "w"
  refine wpe_lcP rs (fun r => .list (rowD r)) (fun _ => true) (fun r => .tuple (rowD r)) (tgw_name (by simp)) ?_
  refine wpi_list ?_
  walk_at "w"
  refine ⟨_, rfl, rfl, by omega, ?_, ?_⟩
  · rintro r hr ⟨sl, ms, c⟩ e1 e2 e3
    have e1 : sl = _ := e1
    subst e1
    refine wpg_name ?_
    walk_at "w"
    refine ⟨rfl, e2, rfl, fun _ => ?_⟩
    walk_at "w"
    exact ⟨_, rowD r, rfl, rfl, rfl, e2, rfl⟩
  rw [filter_tt]
  walk_at "w"
  refine ⟨_, rs.map fun r => .tuple (rowD r), rfl, rfl, rfl, _, 1, rfl, by show List.length (webS rs 0) < 1000; simp [webS], rfl, ?_⟩
  walk_at "w"
  refine wps_fld O (by simp) hpk ?_
  walk_at "w"
  refine wpe_fldS (d := AA rs) O (by simp) hpk rfl (by rfl) ?_
  walk_at "w"
  refine ⟨_, _, rfl, rfl, rfl, _, 2, rfl, by show List.length (webS rs 1) < 1000; simp [webS], ?_, ?_⟩
  · simp only [List.length_map]
    rfl
  refine wps_fld O (by simp) hpk ?_
  walk_at "w"
  refine wpe_fldS (d := AA rs) O (by simp) hpk rfl (by rfl) ?_
  walk_at "w"
  refine ⟨(rs.map fun r => .tuple (rowD r)).map .d, 0, .d (.tuple (rowD r0)), rfl, rfl, atI_d (atI_nat (by decide) (by rw [List.getElem?_map, show (0 : Int).toNat = 0 from rfl, hr0]; rfl)), ?_⟩
  walk_at "w"
  refine ⟨_, _, rfl, rfl, rfl, _, 3, rfl, by show List.length (webS rs 2) < 1000; simp [webS], ?_, h⟩
  rw [List.length_map, rowD_len, l0]
  rfl
end P75
set_option Elab.async false
set_option linter.all false
set_option maxRecDepth 100000
set_option maxHeartbeats 4000000
namespace P75
open PySem L2 Evl DL RZ
local macro_rules | `(tactic| walk_at "wx") => `(tactic| first | (refine wpe_var rfl rfl ?_) | (refine wpe_int ?_) | (refine wpe_str ?_) | (refine wpe_non ?_) | (refine wpe_bl ?_) | (refine wpe_ty ?_) | (refine wpe_ref ?_) | with_reducible refine wpe_add ?_ | with_reducible refine wpe_sub ?_ | with_reducible refine wpe_mul ?_ | with_reducible refine wpe_mod ?_ | with_reducible refine wpe_fdiv ?_ | with_reducible refine wpe_pow ?_ | with_reducible refine wpe_lt ?_ | with_reducible refine wpe_le ?_ | with_reducible refine wpe_gt ?_ | with_reducible refine wpe_ge ?_ | with_reducible refine wpe_eqS ?_ | with_reducible refine wpe_neS ?_ | with_reducible refine wpe_neg ?_ | with_reducible refine wpe_chainLeLt ?_ | with_reducible refine wpe_chainLeLe ?_ | with_reducible refine wpe_eqD ?_ | with_reducible refine wpe_neD ?_ | with_reducible refine wpe_isNn ?_ | with_reducible refine wpe_notNn ?_ | with_reducible refine wpe_inI ?_ | with_reducible refine wpe_if ?_ | with_reducible refine wpe_andV ?_ | with_reducible refine wpe_orV ?_ | with_reducible refine wpe_notV ?_ | with_reducible refine wpe_ix ?_ | with_reducible refine wpe_slL ?_ | with_reducible refine wpe_slA ?_ | with_reducible refine wpe_cat ?_ | with_reducible refine wpe_catA ?_ | with_reducible refine wpe_rep ?_ | with_reducible refine wpe_isiR ?_ | (refine wpe_isiI (by simp) ?_) | with_reducible refine wpe_len ?_ | with_reducible refine wpe_listOf ?_ | with_reducible refine wpe_tupleOf ?_ | with_reducible refine wpe_all ?_ | with_reducible refine wpe_any ?_ | with_reducible refine wpe_sum ?_ | with_reducible refine wpe_max ?_ | with_reducible refine wpe_sortedI ?_ | with_reducible refine wpe_intOf ?_ | with_reducible refine wpe_isi ?_ | with_reducible refine wpe_count ?_ | with_reducible refine wpe_pop ?_ | with_reducible refine wpe_tup ?_ | with_reducible refine wpe_lst ?_ | (refine wpa_nil ?_) | with_reducible refine wpa_cons ?_ | (refine wpo_none ?_) | with_reducible refine wpo_some ?_ | with_reducible refine wpt_test ?_ | with_reducible refine wpt_B ?_ | with_reducible refine wpt_and ?_ | with_reducible refine wpt_or ?_ | with_reducible refine wpt_not ?_ | (refine wpt_yes ?_) | with_reducible refine wps_seq ?_ | with_reducible refine wps_set ?_ | with_reducible refine wps_ret ?_ | with_reducible refine wps_if ?_ | with_reducible refine wps_par ?_ | with_reducible refine wps_app ?_ | (refine wps_next ?_) | (refine wps_brk ?_) | (refine wps_cont ?_) | (refine wps_retN ?_) | with_reducible refine wps_drop ?_ | with_reducible refine wps_asg ?_)
local macro_rules | `(tactic| walk_at "w") => `(tactic| (walk_at "wx"; repeat (walk_at "wx")))
local macro_rules | `(tactic| walk_at "gx") => `(tactic| first | (walk_at "wx") | with_reducible refine wpe_cA1 ?_ | with_reducible refine wpe_cA2 ?_ | with_reducible refine wpe_cA3 ?_ | with_reducible refine wpe_cB1 ?_ | with_reducible refine wpe_cB2 ?_ | with_reducible refine wpe_cB3 ?_ | with_reducible refine wpe_cB4 ?_ | with_reducible refine wpe_cB5 ?_ | (refine ⟨_, rfl, ?_⟩) | (refine ⟨_, _, rfl, rfl, ?_⟩) | (refine ⟨_, _, _, rfl, rfl, rfl, ?_⟩) | (refine ⟨_, _, _, _, rfl, rfl, rfl, rfl, rfl, ?_⟩) | (refine ⟨_, _, _, _, rfl, rfl, rfl, rfl, ?_⟩) | (refine ⟨_, _, _, _, _, rfl, rfl, rfl, rfl, rfl, ?_⟩) | (refine ⟨_, _, rfl, ?_⟩))
local macro_rules | `(tactic| walk_at "g") => `(tactic| (walk_at "gx"; repeat (walk_at "gx")))
local macro_rules | `(tactic| walk_at "ln") => `(tactic| first | omega | (simp [LL, rowD, iL, iN]; done) | (simp [LL, rowD, iL, iN]; omega) | (simp [LL, rowD, iL, iN] at *; omega))
/-! ### the ways of a web -/
def W_need_web : Wf := fun ds Φ _ => ∃ rs, ds = [webD rs] ∧ Φ .none
theorem w_need_web {C : Cn} {A : Ads} {ds : List PyData} {Φ : PyData → Prop} {X4 : Sp} (O : OwnC C.K C.cl "Web" A.c_Web fWeb) (I : IsiC C.K A.c_Web) (h : W_need_web ds Φ C.Psi) : wps C (t_need_web C.K A X4 C.EX) (start0 (ds.map .d) 1 0) (DD Φ) := by
  obtain ⟨rs, rfl, h⟩ := h
  unfold t_need_web
  refine wps_if (wpt_not (wpt_B (wpe_isiO O I ?_)))
  walk_at "w"
  refine ⟨_, rfl, _, rfl, fun e => (nomatch e), fun _ => ?_⟩
  walk_at "w"
  exact h
def backS (acc : Row) (p : Option Nat × Nat) : Row := match p.1 with
  | some q => acc.set q (some p.2)
  | none => acc
def backF (r : Row) : Row := r.zipIdx.foldl backS (List.replicate r.length none)
theorem backS_len : ∀ {l : List (Option Nat × Nat)} {acc : Row}, (l.foldl backS acc).length = acc.length
  | [], _ => rfl
  | p :: l, acc => by
    rw [List.foldl_cons, backS_len]
    unfold backS
    split
    · rw [List.length_set]
    · rfl
theorem backF_len (r : Row) : (backF r).length = r.length := by
  rw [backF, backS_len, List.length_replicate]
theorem rowD_set (r : Row) (q k : Nat) : ((rowD r).map W.d).set q (.d (.int (k : Int))) = (rowD (r.set q (some k))).map W.d := by
  unfold rowD
  rw [List.map_set, List.map_set]
  rfl
def W_backward : Wf := fun ds Φ _ => ∃ r : Row, ds = [.tuple (rowD r)] ∧ r.length ≤ 400 ∧ (∀ q, some q ∈ r → q < r.length) ∧ Φ (.tuple (rowD (backF r)))
theorem w_backward {C : Cn} {A : Ads} {ds : List PyData} {Φ : PyData → Prop} {Ψ : Er → Prop} (h : W_backward ds Φ Ψ) : wps C (t_backward C.K A) (start0 (ds.map .d) 4 0) (DD Φ) := by
  obtain ⟨r, rfl, hl, hq, h⟩ := h
  unfold t_backward
  refine wps_seq (wps_set ?_)
  refine wpe_repM ?_
  walk_at "w"
  refine ⟨[.none], rfl, by simp, ?_⟩
  walk_at "g"
  refine ⟨by walk_at "ln", by walk_at "ln", by walk_at "ln", ?_⟩
  have e0 : (List.replicate (((rowD r).map W.d).length : Int).toNat (List.map W.d [PyData.none])).flatten = (rowD (List.replicate r.length none)).map W.d := by
    rw [List.length_map, rowD_len, Int.toNat_natCast]
    simp [rowD, oD]
  rw [e0]
  refine wps_seq ?_
  refine wps_for (items := enumD (rowD r)) (fun j s => ∃ w2 w3, s = ⟨[.d (.tuple (rowD r)), .m 0, w2, w3], [some ((rowD ((r.zipIdx.take j).foldl backS (List.replicate r.length none))).map .d)], 0⟩) ?_ ?_ ?_
  · refine wpi_enumT ?_
    walk_at "w"
    exact ⟨rowD r, rfl, rfl, _, _, rfl⟩
  · rintro j d s1 hd ⟨w2, w3, rfl⟩
    obtain ⟨x, hx, rfl⟩ := enumD_get hd
    obtain ⟨e, he, rfl⟩ : ∃ e, r[j]? = some e ∧ x = oD e := by
      rw [rowD, List.getElem?_map] at hx
      cases e : r[j]? with
      | none => simp [e] at hx
      | some a => exact ⟨a, rfl, by simpa [e] using hx.symm⟩
    have hz := zipIdx_take he
    have hen : (r.zipIdx.take (j + 1)).foldl backS (List.replicate r.length none) = backS ((r.zipIdx.take j).foldl backS (List.replicate r.length none)) (e, j) := by
      rw [hz, List.foldl_append]
      rfl
    refine wpg_tup2 ?_
    walk_at "w"
    refine ⟨_, oD_isN e, _, rfl, fun en => ?_, fun en => ?_⟩
    · cases e with
      | none => cases en
      | some q =>
        walk_at "w"
        refine wpg_sub ?_
        walk_at "w"
        have hqr := hq q (List.mem_of_getElem? he)
        refine ⟨0, _, (q : Int), q, rfl, rfl, rfl, ?_, ?_⟩
        · rw [List.length_map, rowD_len, backS_len, List.length_replicate]
          unfold ixN
          rw [if_pos (Int.natCast_nonneg q), if_pos (by omega)]
          rfl
        · refine ⟨.d (.int (j : Int)), .d (.int (q : Int)), ?_⟩
          rw [hen, rowD_set]
          rfl
    · cases e with
      | some q => cases en
      | none =>
        walk_at "w"
        exact ⟨.d (.int (j : Int)), .d .none, by rw [hen]; rfl⟩
  · rintro s1 ⟨w2, w3, rfl⟩
    rw [List.take_of_length_le (by rw [enumD_len, rowD_len, List.length_zipIdx]; exact Nat.le_refl _)]
    walk_at "w"
    exact ⟨_, _, rfl, rfl, _, rfl, h⟩
def W_backs_of : Wf := fun ds Φ _ => ∃ rs, ds = [webD rs] ∧ okW rs = true ∧ Φ (AA (rs.map backF))
theorem w_backs_of {C : Cn} {A : Ads} {ds : List PyData} {Φ : PyData → Prop} {Ψ : Er → Prop} (O : OwnC C.K C.cl "Web" A.c_Web fWeb) (h : W_backs_of ds Φ Ψ) : wps C (t_backs_of C.K A (spP C.K C.cl W_backward)) (start0 (ds.map .d) 2 0) (DD Φ) := by
  obtain ⟨rs, rfl, ho, h⟩ := h
  obtain ⟨h1, h2, h3, h4, h5⟩ := okW_iff ho
  unfold t_backs_of
  walk_at "w"
  refine wpe_lcP rs (fun r => .tuple (rowD r)) (fun _ => true) (fun r => .tuple (rowD (backF r))) (tgw_name (by simp)) ?_
  refine wpi_tup ?_
  refine wpe_fld O (by simp) ?_
  walk_at "w"
  refine ⟨_, _, rfl, rfl, _, rfl, rfl, by omega, ?_, ?_⟩
  · rintro r hr ⟨sl, ms, c⟩ e1 e2 e3
    have e1 : sl = _ := e1
    subst e1
    obtain ⟨l1, hq, t1, t2, t3⟩ := h5 r hr
    refine wpg_name ?_
    walk_at "w"
    refine ⟨rfl, e2, rfl, fun _ => ?_⟩
    walk_at "g"
    exact ⟨by omega, fun q hm => by rw [l1]; exact hq q hm, rfl, e2, rfl⟩
  rw [filter_tt]
  walk_at "w"
  refine ⟨_, rs.map fun r => .tuple (rowD (backF r)), rfl, rfl, _, rfl, ?_⟩
  rw [AA, List.map_map] at h
  exact h
def farGo (r : Row) : Nat → Nat → Option Nat
  | 0, _ => none
  | f + 1, p => match r[p]? with
    | some none => some 0
    | some (some q) => (farGo r f q).map (· + 1)
    | none => none
def farF (r : Row) (p : Nat) : Option Nat := farGo r (r.length + 1) p
def farT (r : Row) (p : Nat) : Nat := (farF r p).getD 0
def W_how_far : Wf := fun ds Φ _ => ∃ (r : Row) (p k : Nat), ds = [.tuple (rowD r), .int (p : Int)] ∧ farF r p = some k ∧ Φ (.int (k : Int))
theorem w_how_far {C : Cn} {A : Ads} {ds : List PyData} {Φ : PyData → Prop} {Ψ : Er → Prop} (h : W_how_far ds Φ Ψ) : wps C (t_how_far C.K A) (start0 (ds.map .d) 3 0) (DD Φ) := by
  obtain ⟨r, p, k, rfl, hf, h⟩ := h
  unfold t_how_far
  walk_at "w"
  refine wps_while (fun f s => ∃ (p many k' : Nat), s = ⟨[.d (.tuple (rowD r)), .d (.int (p : Int)), .d (.int (many : Int))], [], 0⟩ ∧ farGo r f p = some k' ∧ many + k' = k) (r.length + 1) ⟨p, 0, k, rfl, hf, Nat.zero_add k⟩ ?_
  rintro f s1 ⟨p, many, k', rfl, hgo, hs⟩
  cases f with
  | zero => simp [farGo] at hgo
  | succ f =>
    have hgo : (match r[p]? with
      | some none => some 0
      | some (some q) => (farGo r f q).map (· + 1)
      | none => none) = some k' := hgo
    cases hx : r[p]? with
    | none => simp [hx] at hgo
    | some x =>
      walk_at "w"
      refine ⟨_, _, _, rfl, rfl, row_get hx, _, oD_isN x, _, rfl, fun e => ?_, fun e => ?_⟩
      · cases x with
        | none => cases e
        | some q =>
          simp only [hx] at hgo
          cases hq2 : farGo r f q with
          | none => simp [hq2] at hgo
          | some k2 =>
            simp only [hq2, Option.map_some, Option.some.injEq] at hgo
            subst hgo
            walk_at "w"
            refine ⟨_, _, rfl, rfl, ?_⟩
            walk_at "w"
            refine ⟨_, _, _, rfl, rfl, row_get hx, ?_⟩
            walk_at "w"
            refine ⟨_, _, rfl, f, by omega, q, many + 1, k2, ?_, hq2, by omega⟩
            show _ = (⟨[_, _, .d (.int ((many + 1 : Nat) : Int))], [], 0⟩ : S)
            rw [Int.natCast_add]
            rfl
      · cases x with
        | some q => cases e
        | none =>
          simp only [hx] at hgo
          cases hgo
          have hs : many = k := by omega
          subst hs
          walk_at "w"
          exact ⟨_, rfl, h⟩
def depP (r : Row) (p : Nat) : PyData := .tuple [.int (farT r p : Int), .int (farT (backF r) p : Int)]
def depR (m : Nat) (r : Row) : PyData := .list ((List.range m).map (depP r))
def depsD (rs : List Row) : PyData := .list (rs.map (depR (manyF rs)))
def okD (rs : List Row) : Bool := rs.all fun r => (List.range (manyF rs)).all fun p => (farF r p).isSome && (farF (backF r) p).isSome
theorem okD_iff {rs : List Row} (h : okD rs = true) {r : Row} (hr : r ∈ rs) {p : Nat} (hp : p < manyF rs) : farF r p = some (farT r p) ∧ farF (backF r) p = some (farT (backF r) p) := by
  have := List.all_eq_true.mp (List.all_eq_true.mp h r hr) p (List.mem_range.mpr hp)
  rw [Bool.and_eq_true] at this
  obtain ⟨a, b⟩ := this
  obtain ⟨x, hx⟩ := Option.isSome_iff_exists.mp a
  obtain ⟨y, hy⟩ := Option.isSome_iff_exists.mp b
  unfold farT
  rw [hx, hy]
  exact ⟨rfl, rfl⟩
def W_all_depths : Wf := fun ds Φ _ => ∃ rs, ds = [webD rs] ∧ okW rs = true ∧ okD rs = true ∧ Φ (depsD rs)
theorem w_all_depths {C : Cn} {A : Ads} {ds : List PyData} {Φ : PyData → Prop} {Ψ : Er → Prop} (O : OwnC C.K C.cl "Web" A.c_Web fWeb) (h : W_all_depths ds Φ Ψ) : wps C (t_all_depths C.K A (spP C.K C.cl W_backs_of) (spP C.K C.cl W_how_far)) (start0 (ds.map .d) 5 0) (DD Φ) := by
  obtain ⟨rs, rfl, ho, hd, h⟩ := h
  obtain ⟨h1, h2, h3, h4, h5⟩ := okW_iff ho
  unfold t_all_depths
  refine wps_seq (wps_set (wpe_lstM (wpa_nil ⟨Nat.zero_le _, ?_⟩)))
  refine wps_seq ?_
  refine wps_for (items := zipD (rs.map fun r => .tuple (rowD r)) (rs.map fun r => .tuple (rowD (backF r)))) (fun j s => ∃ w2 w3 w4, s = ⟨[.d (webD rs), .m 0, w2, w3, w4], [some (((rs.take j).map (depR (manyF rs))).map .d)], 0⟩) ?_ ?_ ?_
  · refine wpi_zipT ?_
    walk_at "w"
    refine wpe_fld O (by simp) ?_
    walk_at "g"
    refine ⟨ho, ?_⟩
    walk_at "g"
    refine ⟨?_, _, _, _, rfl⟩
    rw [List.map_map]
    rfl
  · rintro j d s1 hd2 ⟨w2, w3, w4, rfl⟩
    obtain ⟨x, y, hx, hy, rfl⟩ := zipD_get hd2
    obtain ⟨r, hr, rfl, rfl⟩ : ∃ r, rs[j]? = some r ∧ x = .tuple (rowD r) ∧ y = .tuple (rowD (backF r)) := by
      rw [List.getElem?_map] at hx hy
      cases e : rs[j]? with
      | none => simp [e] at hx
      | some a => exact ⟨a, rfl, by simpa [e] using hx.symm, by simpa [e] using hy.symm⟩
    have hrm := List.mem_of_getElem? hr
    refine wpg_tup2 ?_
    walk_at "w"
    refine ⟨0, _, rfl, rfl, ?_⟩
    refine wpe_lcP (List.range (manyF rs)) (fun p => .int (0 + (p : Int))) (fun _ => true) (depP r) (tgw_name (by simp)) ?_
    refine wpi_rng1 ?_
    refine wpa_cons ?_
    refine wpe_fld O (by simp) ?_
    walk_at "w"
    refine ⟨_, _, rfl, rfl, ?_⟩
    walk_at "w"
    refine ⟨_, rfl, by omega, by omega, rfl, by simp; omega, ?_, ?_⟩
    · rintro p hp ⟨sl, ms, c⟩ e1 e2 e3
      have e1 : sl = _ := e1
      subst e1
      have hp := List.mem_range.mp hp
      obtain ⟨f1, f2⟩ := okD_iff hd hrm hp
      refine wpg_name ?_
      walk_at "w"
      refine ⟨rfl, e2, rfl, fun _ => ?_⟩
      rw [Int.zero_add]
      walk_at "w"
      refine wpe_cB2 ?_
      walk_at "w"
      refine ⟨_, _, rfl, rfl, r, p, _, rfl, f1, ?_⟩
      walk_at "w"
      refine wpe_cB2 ?_
      walk_at "w"
      refine ⟨_, _, rfl, rfl, backF r, p, _, rfl, f2, ?_⟩
      walk_at "w"
      exact ⟨[.int _, .int _], rfl, by simp, rfl, e2, rfl⟩
    · rw [filter_tt]
      refine ⟨_, rfl, by simp; omega, .d (.tuple (rowD r)), .d (.tuple (rowD (backF r))), w4, ?_⟩
      rw [List.take_succ, hr]
      simp only [List.map_append]
      rfl
  · rintro s1 ⟨w2, w3, w4, rfl⟩
    have hlen : (zipD (rs.map fun r => PyData.tuple (rowD r)) (rs.map fun r => .tuple (rowD (backF r)))).length = rs.length := by simp [zipD]
    rw [hlen, List.take_length]
    refine wps_frz (ds := rs.map (depR (manyF rs))) 0 rfl ?_
    walk_at "w"
    exact ⟨_, rfl, h⟩
end P75
set_option Elab.async false
set_option linter.all false
set_option maxRecDepth 100000
set_option maxHeartbeats 4000000
namespace P75
open PySem L2 Evl DL RZ
local macro_rules | `(tactic| walk_at "wx") => `(tactic| first | (refine wpe_var rfl rfl ?_) | (refine wpe_int ?_) | (refine wpe_str ?_) | (refine wpe_non ?_) | (refine wpe_bl ?_) | (refine wpe_ty ?_) | (refine wpe_ref ?_) | with_reducible refine wpe_add ?_ | with_reducible refine wpe_sub ?_ | with_reducible refine wpe_mul ?_ | with_reducible refine wpe_mod ?_ | with_reducible refine wpe_fdiv ?_ | with_reducible refine wpe_pow ?_ | with_reducible refine wpe_lt ?_ | with_reducible refine wpe_le ?_ | with_reducible refine wpe_gt ?_ | with_reducible refine wpe_ge ?_ | with_reducible refine wpe_eqS ?_ | with_reducible refine wpe_neS ?_ | with_reducible refine wpe_neg ?_ | with_reducible refine wpe_chainLeLt ?_ | with_reducible refine wpe_chainLeLe ?_ | with_reducible refine wpe_eqD ?_ | with_reducible refine wpe_neD ?_ | with_reducible refine wpe_isNn ?_ | with_reducible refine wpe_notNn ?_ | with_reducible refine wpe_inI ?_ | with_reducible refine wpe_if ?_ | with_reducible refine wpe_andV ?_ | with_reducible refine wpe_orV ?_ | with_reducible refine wpe_notV ?_ | with_reducible refine wpe_ix ?_ | with_reducible refine wpe_slL ?_ | with_reducible refine wpe_slA ?_ | with_reducible refine wpe_cat ?_ | with_reducible refine wpe_catA ?_ | with_reducible refine wpe_rep ?_ | with_reducible refine wpe_isiR ?_ | (refine wpe_isiI (by simp) ?_) | with_reducible refine wpe_len ?_ | with_reducible refine wpe_listOf ?_ | with_reducible refine wpe_tupleOf ?_ | with_reducible refine wpe_all ?_ | with_reducible refine wpe_any ?_ | with_reducible refine wpe_sum ?_ | with_reducible refine wpe_max ?_ | with_reducible refine wpe_sortedI ?_ | with_reducible refine wpe_intOf ?_ | with_reducible refine wpe_isi ?_ | with_reducible refine wpe_count ?_ | with_reducible refine wpe_pop ?_ | with_reducible refine wpe_tup ?_ | with_reducible refine wpe_lst ?_ | (refine wpa_nil ?_) | with_reducible refine wpa_cons ?_ | (refine wpo_none ?_) | with_reducible refine wpo_some ?_ | with_reducible refine wpt_test ?_ | with_reducible refine wpt_B ?_ | with_reducible refine wpt_and ?_ | with_reducible refine wpt_or ?_ | with_reducible refine wpt_not ?_ | (refine wpt_yes ?_) | with_reducible refine wps_seq ?_ | with_reducible refine wps_set ?_ | with_reducible refine wps_ret ?_ | with_reducible refine wps_if ?_ | with_reducible refine wps_par ?_ | with_reducible refine wps_app ?_ | (refine wps_next ?_) | (refine wps_brk ?_) | (refine wps_cont ?_) | (refine wps_retN ?_) | with_reducible refine wps_drop ?_ | with_reducible refine wps_asg ?_ | with_reducible refine wpe_fld (by assumption) (by simp) ?_)
local macro_rules | `(tactic| walk_at "w") => `(tactic| (walk_at "wx"; repeat (walk_at "wx")))
local macro_rules | `(tactic| walk_at "gx") => `(tactic| first | (walk_at "wx") | with_reducible refine wpe_cA1 ?_ | with_reducible refine wpe_cA2 ?_ | with_reducible refine wpe_cA3 ?_ | with_reducible refine wpe_cB1 ?_ | with_reducible refine wpe_cB2 ?_ | with_reducible refine wpe_cB3 ?_ | with_reducible refine wpe_cB4 ?_ | with_reducible refine wpe_cB5 ?_ | (refine ⟨_, rfl, ?_⟩) | (refine ⟨_, _, rfl, rfl, ?_⟩) | (refine ⟨_, _, _, rfl, rfl, rfl, ?_⟩) | (refine ⟨_, _, _, _, rfl, rfl, rfl, rfl, rfl, ?_⟩) | (refine ⟨_, _, _, _, rfl, rfl, rfl, rfl, ?_⟩) | (refine ⟨_, _, _, _, _, rfl, rfl, rfl, rfl, rfl, ?_⟩) | (refine ⟨_, _, rfl, ?_⟩))
local macro_rules | `(tactic| walk_at "g") => `(tactic| (walk_at "gx"; repeat (walk_at "gx")))
local macro_rules | `(tactic| walk_at "ln") => `(tactic| first | omega | (simp [LL, rowD, iL, iN]; done) | (simp [LL, rowD, iL, iN]; omega) | (simp [LL, rowD, iL, iN] at *; omega))
/-! ### webs joined -/
def W_need_alike_colours : Wf := fun ds Φ _ => ∃ r1 r2, ds = [webD r1, webD r2] ∧ r1.length = r2.length ∧ Φ .none
theorem w_need_alike_colours {C : Cn} {A : Ads} {ds : List PyData} {Φ : PyData → Prop} {X4 : Sp} (O : OwnC C.K C.cl "Web" A.c_Web fWeb) (h : W_need_alike_colours ds Φ C.Psi) : wps C (t_need_alike_colours C.K A (spP C.K C.cl W_need_web) X4 C.EX) (start0 (ds.map .d) 2 0) (DD Φ) := by
  obtain ⟨r1, r2, rfl, hl, h⟩ := h
  unfold t_need_alike_colours
  walk_at "g"
  refine ⟨fun e => ?_, fun _ => ?_⟩
  · exfalso
    rw [hl] at e
    simp at e
  walk_at "w"
  exact h
def jrowP (a b : Row) (p q : Nat) : Option Nat := if farT (backF b) q < farT a p then (a[p]?.join).map fun e => e * b.length + q else (b[q]?.join).map fun e => p * b.length + e
def jrow (a b : Row) : Row := (List.range a.length).flatMap fun p => (List.range b.length).map (jrowP a b p)
def W_joined_row : Wf := fun ds Φ _ => ∃ (r1 r2 : List Row) (i : Nat) (a b : Row), ds = [webD r1, webD r2, .int (i : Int), depsD r1, depsD r2] ∧ okW r1 = true ∧ okW r2 = true ∧ okD r1 = true ∧ okD r2 = true ∧ manyF r1 * manyF r2 ≤ 400 ∧ r1[i]? = some a ∧ r2[i]? = some b ∧ Φ (.list (rowD (jrow a b)))
theorem far_some {r : Row} {p : Nat} (h : 0 < farT r p) : ∃ q, r[p]? = some (some q) := by
  unfold farT farF at h
  cases hx : r[p]? with
  | none => simp [farGo, hx] at h
  | some x =>
    cases x with
    | none => simp [farGo, hx] at h
    | some q => exact ⟨q, rfl⟩
theorem deps_at {rs : List Row} {i p : Nat} {a : Row} (h : rs[i]? = some a) (hp : p < manyF rs) : atI ((rs.map (depR (manyF rs))).map W.d) (i : Int) = some (.d (depR (manyF rs) a)) ∧ atI (((List.range (manyF rs)).map (depP a)).map W.d) (p : Int) = some (.d (depP a p)) := by
  refine ⟨atI_d (atI_nat (Int.natCast_nonneg i) (by rw [Int.toNat_natCast, List.getElem?_map, h]; rfl)), atI_d (atI_nat (Int.natCast_nonneg p) ?_)⟩
  rw [Int.toNat_natCast, List.getElem?_map, List.getElem?_range hp]
  rfl
theorem arr_at {rs : List Row} {i : Nat} {a : Row} (h : rs[i]? = some a) : atI ((rs.map fun r => PyData.tuple (rowD r)).map W.d) (i : Int) = some (.d (.tuple (rowD a))) :=
  atI_d (atI_nat (Int.natCast_nonneg i) (by rw [Int.toNat_natCast, List.getElem?_map, h]; rfl))
def jpre (a b : Row) (p j : Nat) : Row := ((List.range p).flatMap fun p => (List.range b.length).map (jrowP a b p)) ++ (List.range j).map (jrowP a b p)
theorem jpre_succ (a b : Row) (p j : Nat) : jpre a b p (j + 1) = jpre a b p j ++ [jrowP a b p j] := by
  simp [jpre, List.range_succ]
theorem jpre_next (a b : Row) (p : Nat) : jpre a b p b.length = jpre a b (p + 1) 0 := by
  simp [jpre, List.range_succ]
theorem jpre_len (a b : Row) (p j : Nat) : (jpre a b p j).length = p * b.length + j := by
  induction p with
  | zero => simp [jpre]
  | succ p ih =>
    have : jpre a b (p + 1) j = jpre a b (p + 1) 0 ++ (List.range j).map (jrowP a b (p + 1)) := by simp [jpre]
    rw [this, List.length_append, ← jpre_next]
    have e2 : (jpre a b p b.length).length = p * b.length + b.length := by
      have : jpre a b p b.length = jpre a b p 0 ++ (List.range b.length).map (jrowP a b p) := by simp [jpre]
      have e3 : jpre a b p j = jpre a b p 0 ++ (List.range j).map (jrowP a b p) := by simp [jpre]
      rw [e3] at ih
      rw [this]
      simp only [List.length_append, List.length_map, List.length_range] at ih ⊢
      omega
    rw [e2, Nat.succ_mul]
    simp
theorem w_joined_row {C : Cn} {A : Ads} {ds : List PyData} {Φ : PyData → Prop} {Ψ : Er → Prop} (O : OwnC C.K C.cl "Web" A.c_Web fWeb) (h : W_joined_row ds Φ Ψ) : wps C (t_joined_row C.K A) (start0 (ds.map .d) 9 0) (DD Φ) := by
  obtain ⟨r1, r2, i, a, b, rfl, o1, o2, d1, d2, hm, ha, hb, h⟩ := h
  obtain ⟨a1, a2, a3, a4, a5⟩ := okW_iff o1
  obtain ⟨b1, b2, b3, b4, b5⟩ := okW_iff o2
  obtain ⟨la, qa, _⟩ := a5 a (List.mem_of_getElem? ha)
  obtain ⟨lb, qb, _⟩ := b5 b (List.mem_of_getElem? hb)
  unfold t_joined_row
  refine wps_seq (wps_set (wpe_lstM (wpa_nil ⟨Nat.zero_le _, ?_⟩)))
  refine wps_seq ?_
  refine wps_for (items := rng 0 (manyF r1)) (fun p s => ∃ w6 w7 w8, s = ⟨[.d (webD r1), .d (webD r2), .d (.int (i : Int)), .d (depsD r1), .d (depsD r2), .m 0, w6, w7, w8], [some ((rowD (jpre a b p 0)).map .d)], 0⟩) ?_ ?_ ?_
  · refine wpi_rng1 ?_
    refine wpa_cons ?_
    refine wpe_fld O (by simp) ?_
    walk_at "w"
    refine ⟨_, _, rfl, rfl, ?_⟩
    walk_at "w"
    exact ⟨_, rfl, by omega, by omega, rfl, _, _, _, rfl⟩
  · rintro p d s1 hd ⟨w6, w7, w8, rfl⟩
    obtain ⟨hp, rfl⟩ := rng_get hd
    rw [Int.zero_add]
    refine wpg_name ?_
    refine wps_for (items := rng 0 (manyF r2)) (fun j s => ∃ w7 w8, s = ⟨[.d (webD r1), .d (webD r2), .d (.int (i : Int)), .d (depsD r1), .d (depsD r2), .m 0, .d (.int (p : Int)), w7, w8], [some ((rowD (jpre a b p j)).map .d)], 0⟩) ?_ ?_ ?_
    · refine wpi_rng1 ?_
      refine wpa_cons ?_
      refine wpe_fld O (by simp) ?_
      walk_at "w"
      refine ⟨_, _, rfl, rfl, ?_⟩
      walk_at "w"
      exact ⟨_, rfl, by omega, by omega, rfl, _, _, rfl⟩
    · rintro q d s1 hd ⟨w7, w8, rfl⟩
      obtain ⟨hq, rfl⟩ := rng_get hd
      rw [Int.zero_add]
      refine wpg_name ?_
      have lim : p * b.length + q < 400 := by
        have h1 : (p + 1) * manyF r2 ≤ manyF r1 * manyF r2 := Nat.mul_le_mul_right _ hp
        rw [Nat.succ_mul] at h1
        rw [lb]
        omega
      have hcm : ∀ (x y : Nat), x ≤ 400 → y ≤ 400 → CMul (x : Int) (y : Int) := fun x y hx hy => .inl ⟨by omega, by omega⟩
      have step : ∀ w8, ∃ w7' w8', (⟨[.d (webD r1), .d (webD r2), .d (.int (i : Int)), .d (depsD r1), .d (depsD r2), .m 0, .d (.int (p : Int)), .d (.int (q : Int)), w8], [some ((rowD (jpre a b p q)).map W.d ++ [.d (oD (jrowP a b p q))])], 0⟩ : S) = ⟨[.d (webD r1), .d (webD r2), .d (.int (i : Int)), .d (depsD r1), .d (depsD r2), .m 0, .d (.int (p : Int)), w7', w8'], [some ((rowD (jpre a b p (q + 1))).map .d)], 0⟩ := fun w8 => ⟨_, w8, by
        rw [jpre_succ]
        simp only [rowD, List.map_append]
        rfl⟩
      refine wps_if (wpt_test (wpe_gt ?_))
      walk_at "w"
      refine ⟨_, _, _, rfl, rfl, (deps_at ha hp).1, ?_⟩
      walk_at "w"
      refine ⟨_, _, _, rfl, rfl, (deps_at ha hp).2, ?_⟩
      walk_at "w"
      refine ⟨_, _, _, rfl, rfl, rfl, ?_⟩
      walk_at "w"
      refine ⟨_, _, _, rfl, rfl, (deps_at hb hq).1, ?_⟩
      walk_at "w"
      refine ⟨_, _, _, rfl, rfl, (deps_at hb hq).2, ?_⟩
      walk_at "w"
      refine ⟨_, _, _, rfl, rfl, rfl, _, _, rfl, rfl, _, rfl, fun e => ?_, fun e => ?_⟩
      · have e : farT (backF b) q < farT a p := Int.ofNat_lt.mp (of_decide_eq_true e)
        obtain ⟨x, hx⟩ := far_some (Nat.lt_of_le_of_lt (Nat.zero_le _) e)
        have hxm := qa x (List.mem_of_getElem? hx)
        have ej : jrowP a b p q = some (x * b.length + q) := by
          simp [jrowP, e, hx]
        walk_at "w"
        refine ⟨0, _, rfl, rfl, ?_⟩
        walk_at "w"
        refine ⟨_, _, rfl, rfl, ?_⟩
        walk_at "w"
        refine ⟨_, _, _, rfl, rfl, arr_at ha, ?_⟩
        walk_at "w"
        refine ⟨_, _, _, rfl, rfl, row_get hx, ?_⟩
        walk_at "w"
        refine ⟨_, _, rfl, rfl, _, _, rfl, rfl, hcm _ _ (by omega) (by omega), ?_⟩
        walk_at "w"
        refine ⟨_, _, rfl, rfl, _, rfl, by rw [List.length_map, rowD_len, jpre_len]; omega, ?_⟩
        have := step w8
        rw [ej, lb] at this
        exact this
      · have e : ¬ farT (backF b) q < farT a p := fun z => by
          have := of_decide_eq_false e
          exact this (Int.ofNat_lt.mpr z)
        have hqb : q < b.length := by omega
        have hx : b[q]? = some b[q] := List.getElem?_eq_getElem hqb
        walk_at "w"
        refine ⟨_, _, rfl, rfl, ?_⟩
        walk_at "w"
        refine ⟨_, _, _, rfl, rfl, arr_at hb, ?_⟩
        walk_at "w"
        refine ⟨_, _, _, rfl, rfl, row_get hx, ?_⟩
        walk_at "w"
        refine ⟨0, _, rfl, rfl, ?_⟩
        walk_at "w"
        refine ⟨_, oD_isN _, _, rfl, fun en => ?_, fun en => ?_⟩
        · cases hy : b[q] with
          | some y => rw [hy] at en; cases en
          | none =>
            have ej : jrowP a b p q = none := by
              simp [jrowP, e, hx, hy]
            walk_at "w"
            refine ⟨_, rfl, by rw [List.length_map, rowD_len, jpre_len]; omega, ?_⟩
            have := step (.d (oD none))
            rw [ej] at this
            exact this
        · cases hy : b[q] with
          | none => rw [hy] at en; cases en
          | some y =>
            have ej : jrowP a b p q = some (p * b.length + y) := by
              simp [jrowP, e, hx, hy]
            have hyb := qb y (List.mem_of_getElem? (by rw [hx, hy]))
            walk_at "w"
            refine ⟨_, _, rfl, rfl, _, _, rfl, rfl, hcm _ _ (by omega) (by omega), ?_⟩
            walk_at "w"
            refine ⟨_, (y : Int), rfl, rfl, _, rfl, by rw [List.length_map, rowD_len, jpre_len]; omega, ?_⟩
            have := step (.d (oD (some y)))
            rw [ej, lb] at this
            exact this
    · rintro s1 ⟨w7, w8, rfl⟩
      rw [rng_len, ← lb, jpre_next]
      exact ⟨_, _, _, rfl⟩
  · rintro s1 ⟨w6, w7, w8, rfl⟩
    rw [rng_len]
    refine wps_frz (ds := rowD (jpre a b (manyF r1) 0)) 0 rfl ?_
    walk_at "w"
    refine ⟨_, rfl, ?_⟩
    have : jpre a b (manyF r1) 0 = jrow a b := by
      rw [← la]
      simp [jpre, jrow]
    rw [this]
    exact h
def jweb (r1 r2 : List Row) : List Row := (r1.zip r2).map fun p => jrow p.1 p.2
def W_joined : Wf := fun ds Φ _ => ∃ (r1 r2 : List Row), ds = [webD r1, webD r2] ∧ okW r1 = true ∧ okW r2 = true ∧ okD r1 = true ∧ okD r2 = true ∧ manyF r1 * manyF r2 ≤ 400 ∧ r1.length = r2.length ∧ okW (jweb r1 r2) = true ∧ Φ (webD (jweb r1 r2))
theorem w_joined {C : Cn} {A : Ads} {ds : List PyData} {Φ : PyData → Prop} {X6 : Sp} (O : OwnC C.K C.cl "Web" A.c_Web fWeb) (h : W_joined ds Φ C.Psi) : wps C (t_joined C.K A (spP C.K C.cl W_need_alike_colours) X6 (spP C.K C.cl W_all_depths) (spP C.K C.cl W_joined_row) (spI C.K C.cl "Web" A.c_Web W_Web) C.EX) (start0 (ds.map .d) 5 0) (DD Φ) := by
  obtain ⟨r1, r2, rfl, o1, o2, d1, d2, hm, hl, o3, h⟩ := h
  obtain ⟨a1, a2, a3, a4, a5⟩ := okW_iff o1
  unfold t_joined
  walk_at "g"
  refine ⟨hl, ?_⟩
  walk_at "g"
  refine ⟨.inl ⟨by omega, by omega⟩, ?_⟩
  walk_at "g"
  refine ⟨fun e => ?_, fun _ => ?_⟩
  · exfalso
    have := of_decide_eq_true e
    have e2 : ((manyF r1 * manyF r2 : Nat) : Int) = (manyF r1 : Int) * (manyF r2 : Int) := Int.natCast_mul ..
    rw [← e2] at this
    omega
  walk_at "g"
  refine ⟨o1, d1, ?_⟩
  walk_at "g"
  refine ⟨o2, d2, ?_⟩
  walk_at "w"
  refine ⟨[depsD r1, depsD r2], rfl, by simp, wpg_tup2 ?_⟩
  walk_at "w"
  refine wpe_mk O.cl ?_
  refine wpa_cons ?_
  refine wpe_lcP (List.range r1.length) (fun i => .int (0 + (i : Int))) (fun _ => true) (fun i => .list (rowD (jrow (r1.getD i []) (r2.getD i [])))) (tgw_name (by simp)) ?_
  refine wpi_rng1 ?_
  walk_at "w"
  refine ⟨_, _, rfl, rfl, ?_⟩
  walk_at "w"
  refine ⟨_, rfl, by omega, by omega, rfl, by simp; omega, ?_, ?_⟩
  · rintro i hi ⟨sl, ms, c⟩ e1 e2 e3
    have e1 : sl = _ := e1
    subst e1
    have hi := List.mem_range.mp hi
    refine wpg_name ?_
    walk_at "w"
    refine ⟨rfl, e2, rfl, fun _ => ?_⟩
    rw [Int.zero_add]
    walk_at "g"
    refine ⟨_, _, i, r1.getD i [], r2.getD i [], rfl, o1, o2, d1, d2, hm, ?_, ?_, rfl, e2, rfl⟩
    · rw [List.getD_eq_getElem?_getD, List.getElem?_eq_getElem hi]
      rfl
    · rw [List.getD_eq_getElem?_getD, List.getElem?_eq_getElem (by omega)]
      rfl
  · rw [filter_tt]
    walk_at "w"
    have ej : ((List.range r1.length).map fun i => PyData.list (rowD (jrow (r1.getD i []) (r2.getD i [])))) = (jweb r1 r2).map fun r => .list (rowD r) := by
      refine List.ext_getElem (by simp [jweb]; omega) fun i h1 h2 => ?_
      simp [jweb] at h1 h2 ⊢
      rw [List.getElem?_eq_getElem (by omega), List.getElem?_eq_getElem (by omega)]
      rfl
    exact ⟨[_], rfl, jweb r1 r2, by rw [ej]; rfl, o3, fun _ => ⟨_, rfl, h⟩⟩
end P75
set_option Elab.async false
set_option linter.all false
set_option maxRecDepth 100000
set_option maxHeartbeats 4000000
namespace P75
open PySem L2 Evl DL RZ
local macro_rules | `(tactic| walk_at "wx") => `(tactic| first | (refine wpe_var rfl rfl ?_) | (refine wpe_int ?_) | (refine wpe_str ?_) | (refine wpe_non ?_) | (refine wpe_bl ?_) | (refine wpe_ty ?_) | (refine wpe_ref ?_) | with_reducible refine wpe_add ?_ | with_reducible refine wpe_sub ?_ | with_reducible refine wpe_mul ?_ | with_reducible refine wpe_mod ?_ | with_reducible refine wpe_fdiv ?_ | with_reducible refine wpe_pow ?_ | with_reducible refine wpe_lt ?_ | with_reducible refine wpe_le ?_ | with_reducible refine wpe_gt ?_ | with_reducible refine wpe_ge ?_ | with_reducible refine wpe_eqS ?_ | with_reducible refine wpe_neS ?_ | with_reducible refine wpe_neg ?_ | with_reducible refine wpe_chainLeLt ?_ | with_reducible refine wpe_chainLeLe ?_ | with_reducible refine wpe_eqD ?_ | with_reducible refine wpe_neD ?_ | with_reducible refine wpe_isNn ?_ | with_reducible refine wpe_notNn ?_ | with_reducible refine wpe_inI ?_ | with_reducible refine wpe_if ?_ | with_reducible refine wpe_andV ?_ | with_reducible refine wpe_orV ?_ | with_reducible refine wpe_notV ?_ | with_reducible refine wpe_ix ?_ | with_reducible refine wpe_slL ?_ | with_reducible refine wpe_slA ?_ | with_reducible refine wpe_cat ?_ | with_reducible refine wpe_catA ?_ | with_reducible refine wpe_rep ?_ | with_reducible refine wpe_isiR ?_ | (refine wpe_isiI (by simp) ?_) | with_reducible refine wpe_len ?_ | with_reducible refine wpe_listOf ?_ | with_reducible refine wpe_tupleOf ?_ | with_reducible refine wpe_all ?_ | with_reducible refine wpe_any ?_ | with_reducible refine wpe_sum ?_ | with_reducible refine wpe_max ?_ | with_reducible refine wpe_sortedI ?_ | with_reducible refine wpe_intOf ?_ | with_reducible refine wpe_isi ?_ | with_reducible refine wpe_count ?_ | with_reducible refine wpe_pop ?_ | with_reducible refine wpe_tup ?_ | with_reducible refine wpe_lst ?_ | (refine wpa_nil ?_) | with_reducible refine wpa_cons ?_ | (refine wpo_none ?_) | with_reducible refine wpo_some ?_ | with_reducible refine wpt_test ?_ | with_reducible refine wpt_B ?_ | with_reducible refine wpt_and ?_ | with_reducible refine wpt_or ?_ | with_reducible refine wpt_not ?_ | (refine wpt_yes ?_) | with_reducible refine wps_seq ?_ | with_reducible refine wps_set ?_ | with_reducible refine wps_ret ?_ | with_reducible refine wps_if ?_ | with_reducible refine wps_par ?_ | with_reducible refine wps_app ?_ | (refine wps_next ?_) | (refine wps_brk ?_) | (refine wps_cont ?_) | (refine wps_retN ?_) | with_reducible refine wps_drop ?_ | with_reducible refine wps_asg ?_ | with_reducible refine wpe_fld (by assumption) (by simp) ?_)
local macro_rules | `(tactic| walk_at "w") => `(tactic| (walk_at "wx"; repeat (walk_at "wx")))
local macro_rules | `(tactic| walk_at "gx") => `(tactic| first | (walk_at "wx") | with_reducible refine wpe_cA1 ?_ | with_reducible refine wpe_cA2 ?_ | with_reducible refine wpe_cA3 ?_ | with_reducible refine wpe_cB1 ?_ | with_reducible refine wpe_cB2 ?_ | with_reducible refine wpe_cB3 ?_ | with_reducible refine wpe_cB4 ?_ | with_reducible refine wpe_cB5 ?_ | (refine wpe_cN0 rfl ?_) | (refine wpe_cN1 rfl ?_) | (refine wpe_cN2 rfl ?_) | (refine wpe_cN3 rfl ?_) | (refine ⟨_, rfl, ?_⟩) | (refine ⟨_, _, rfl, rfl, ?_⟩) | (refine ⟨_, _, _, rfl, rfl, rfl, ?_⟩) | (refine ⟨_, _, _, _, rfl, rfl, rfl, rfl, rfl, ?_⟩) | (refine ⟨_, _, _, _, rfl, rfl, rfl, rfl, ?_⟩) | (refine ⟨_, _, _, _, _, rfl, rfl, rfl, rfl, rfl, ?_⟩) | (refine ⟨_, _, rfl, ?_⟩))
local macro_rules | `(tactic| walk_at "g") => `(tactic| (walk_at "gx"; repeat (walk_at "gx")))
local macro_rules | `(tactic| walk_at "ln") => `(tactic| first | omega | (simp [LL, rowD, iL, iN]; done) | (simp [LL, rowD, iL, iN]; omega) | (simp [LL, rowD, iL, iN] at *; omega))
/-! ### the law's own checks -/
def W_is_truth : Wf := fun ds Φ _ => ∃ a b : Bool, ds = [.bool a, .bool b] ∧ Φ (.bool (decide (a = b)))
theorem w_is_truth {C : Cn} {A : Ads} {ds : List PyData} {Φ : PyData → Prop} {Ψ : Er → Prop} (h : W_is_truth ds Φ Ψ) : wps C (t__law_is_truth C.K A) (start0 (ds.map .d) 2 0) (DD Φ) := by
  obtain ⟨a, b, rfl, h⟩ := h
  unfold t__law_is_truth
  walk_at "w"
  refine ⟨_, rfl, rfl, _, rfl, fun _ => ?_, fun e => (by simp [kT, tyS] at e)⟩
  walk_at "w"
  refine ⟨_, _, _, _, rfl, rfl, rfl, rfl, rfl, _, rfl, ?_⟩
  have : decide (V.bl a = V.bl b) = decide (a = b) := by
    rw [decide_eq_decide]
    exact ⟨fun e => by cases e; rfl, fun e => by rw [e]⟩
  rw [this]
  exact h
theorem w_law_is_int {C : Cn} {A : Ads} {ds : List PyData} {Φ : PyData → Prop} {Ψ : Er → Prop} (h : W_is_integer ds Φ Ψ) : wps C (t__law_is_int C.K A) (start0 (ds.map .d) 1 0) (DD Φ) := w_is_integer (A := A) h
theorem filt_nil {α : Type} {p : α → Bool} {l : List α} : (l.filter fun x => !p x).isEmpty = l.all p := by
  induction l with
  | nil => rfl
  | cons x l ih =>
    rw [List.filter_cons, List.all_cons]
    cases p x with
    | true => simpa using ih
    | false => simp
def W_is_ints : Wf := fun ds Φ _ => ∃ (xs : List PyData) (m : Int), ds = [.tuple xs, .int m] ∧ xs.length ≤ 1000 ∧ (∀ x ∈ xs, ty x) ∧ Φ (.bool (xs.all (isPt m)))
theorem w_is_ints {C : Cn} {A : Ads} {ds : List PyData} {Φ : PyData → Prop} {Ψ : Er → Prop} (h : W_is_ints ds Φ Ψ) : wps C (t__law_is_ints C.K A (spP C.K C.cl W_is_integer)) (start0 (ds.map .d) 3 0) (DD Φ) := by
  obtain ⟨xs, m, rfl, hl, ht, h⟩ := h
  unfold t__law_is_ints
  walk_at "w"
  refine ⟨_, rfl, rfl, _, rfl, fun e => (by simp [kT, tyS] at e), fun _ => ?_⟩
  walk_at "w"
  refine wpe_lcP xs (fun x => x) (fun x => !isPt m x) (fun _ => .int 1) (tgw_name (by simp)) ?_
  refine wpi_tup ?_
  walk_at "w"
  refine ⟨_, rfl, by simp, by omega, ?_, ?_⟩
  · rintro x hx ⟨sl, ms, c⟩ e1 e2 e3
    have e1 : sl = _ := e1
    subst e1
    refine wpg_name ?_
    walk_at "g"
    refine ⟨ht x hx, _, rfl, fun e => ?_, fun e => ?_⟩
    · have e : isInt x = true := by simpa using e
      obtain ⟨v, rfl⟩ := isInt_of e
      walk_at "g"
      refine ⟨fun h0 => ?_, fun h0 => ?_⟩
      · walk_at "g"
        refine ⟨?_, e2, rfl, fun _ => ?_⟩
        · simp [isPt, h0]
        · walk_at "w"
          exact ⟨rfl, e2, rfl⟩
      · refine ⟨_, rfl, ?_, e2, rfl, fun _ => ?_⟩
        · simp [isPt, h0]
        · walk_at "w"
          exact ⟨rfl, e2, rfl⟩
    · have e : isPt m x = false := by
        cases x <;> first | rfl | simp [isInt] at e
      refine ⟨by rw [e]; rfl, e2, rfl, fun _ => ?_⟩
      walk_at "w"
      exact ⟨rfl, e2, rfl⟩
  · walk_at "w"
    refine ⟨[], rfl, by simp, _, _, rfl, rfl, ?_, rfl, _, rfl, ?_⟩
    · refine pl_list fun d hd => ?_
      obtain ⟨x, _, rfl⟩ := List.mem_map.mp hd
      rfl
    · rw [eqv_nil]
      have : (List.map (fun _ => PyData.int 1) (xs.filter fun x => !isPt m x)).isEmpty = xs.all (isPt m) := by
        rw [List.isEmpty_map]
        exact filt_nil
      rw [this]
      exact h
/-- an odd point is one of these -/
def oddP (m : Int) : List PyData := [.int m, .int (-1), .none, .bool true, .str "0", .tuple [.int 0]]
def W_odd_point : WfN := fun ds c Φ => ∃ m : Int, ds = [.int m] ∧ c < 1000000000 ∧ ∀ d ∈ oddP m, Φ d (c + 1)
theorem w_odd_point {C : Cn} {A : Ads} {ds : List PyData} {c : Nat} {Φ : PyData → Nat → Prop} (h : W_odd_point ds c Φ) : wps C (t__law_odd_point C.K A (spN C.K C.cl C.pk W_pick)) (start0 (.pen :: ds.map .d) 2 c) (DN Φ) := by
  obtain ⟨m, rfl, hc, h⟩ := h
  unfold t__law_odd_point
  refine wps_ret (wpe_cN1 rfl ?_)
  walk_at "w"
  refine ⟨_, rfl, ?_⟩
  walk_at "w"
  refine ⟨[.int 0], rfl, by simp, ?_⟩
  walk_at "w"
  refine ⟨oddP m, rfl, by simp [oddP], _, rfl, _, rfl, by simp [oddP], by simp [oddP], hc, fun d hd => ⟨_, rfl, h d hd⟩⟩
def W_with : Wf := fun ds Φ _ => ∃ (w : List Int) (k : Nat) (x : Int), ds = [.list (iL w), .int (k : Int), .int x] ∧ w.length ≤ 1000 ∧ Φ (.tuple (iL (chg w k x)))
theorem w_with {C : Cn} {A : Ads} {ds : List PyData} {Φ : PyData → Prop} {Ψ : Er → Prop} (h : W_with ds Φ Ψ) : wps C (t__law_with C.K A) (start0 (ds.map .d) 3 0) (DD Φ) := by
  obtain ⟨w, k, x, rfl, hl, h⟩ := h
  unfold t__law_with
  walk_at "w"
  refine ⟨_, rfl, _, rfl, ?_⟩
  walk_at "w"
  refine ⟨_, iL (w.take k), rfl, by rw [cut_to, iL, ← List.map_take]; rfl, ?_⟩
  walk_at "w"
  refine ⟨[.int x], rfl, by simp, _, _, rfl, rfl, ?_, ?_⟩
  · rw [iL_len, List.length_take]
    have := Nat.min_le_right k w.length
    show _ + 1 ≤ _
    omega
  walk_at "w"
  refine ⟨_, _, rfl, rfl, _, rfl, ?_⟩
  walk_at "w"
  refine ⟨_, rfl, ?_⟩
  walk_at "w"
  refine ⟨_, iL (w.drop (k + 1)), rfl, by rw [cut_fromI (i := (k : Int) + 1) _ (k := k + 1) rfl, iL, ← List.map_drop]; rfl, _, _, rfl, rfl, ?_, _, rfl, ?_⟩
  · rw [List.length_append, iL_len, iL_len, List.length_take, List.length_drop]
    have := Nat.min_le_right k w.length
    show _ + 1 + _ ≤ _
    omega
  · have : iL (w.take k) ++ [PyData.int x] ++ iL (w.drop (k + 1)) = iL (chg w k x) := by
      rw [iL, iL, iL, chg, List.map_append, List.map_append]
      rfl
    rw [this]
    exact h
end P75
set_option Elab.async false
set_option linter.all false
set_option maxRecDepth 100000
set_option maxHeartbeats 4000000
namespace P75
open PySem L2 Evl DL RZ
local macro_rules | `(tactic| walk_at "wx") => `(tactic| first | (refine wpe_var rfl rfl ?_) | (refine wpe_int ?_) | (refine wpe_str ?_) | (refine wpe_non ?_) | (refine wpe_bl ?_) | (refine wpe_ty ?_) | (refine wpe_ref ?_) | with_reducible refine wpe_add ?_ | with_reducible refine wpe_sub ?_ | with_reducible refine wpe_mul ?_ | with_reducible refine wpe_mod ?_ | with_reducible refine wpe_fdiv ?_ | with_reducible refine wpe_pow ?_ | with_reducible refine wpe_lt ?_ | with_reducible refine wpe_le ?_ | with_reducible refine wpe_gt ?_ | with_reducible refine wpe_ge ?_ | with_reducible refine wpe_eqS ?_ | with_reducible refine wpe_neS ?_ | with_reducible refine wpe_neg ?_ | with_reducible refine wpe_chainLeLt ?_ | with_reducible refine wpe_chainLeLe ?_ | with_reducible refine wpe_eqD ?_ | with_reducible refine wpe_neD ?_ | with_reducible refine wpe_isNn ?_ | with_reducible refine wpe_notNn ?_ | with_reducible refine wpe_inI ?_ | with_reducible refine wpe_if ?_ | with_reducible refine wpe_andV ?_ | with_reducible refine wpe_orV ?_ | with_reducible refine wpe_notV ?_ | with_reducible refine wpe_ix ?_ | with_reducible refine wpe_slL ?_ | with_reducible refine wpe_slA ?_ | with_reducible refine wpe_cat ?_ | with_reducible refine wpe_catA ?_ | with_reducible refine wpe_rep ?_ | with_reducible refine wpe_isiR ?_ | (refine wpe_isiI (by simp) ?_) | with_reducible refine wpe_len ?_ | with_reducible refine wpe_listOf ?_ | with_reducible refine wpe_tupleOf ?_ | with_reducible refine wpe_all ?_ | with_reducible refine wpe_any ?_ | with_reducible refine wpe_sum ?_ | with_reducible refine wpe_max ?_ | with_reducible refine wpe_sortedI ?_ | with_reducible refine wpe_intOf ?_ | with_reducible refine wpe_isi ?_ | with_reducible refine wpe_count ?_ | with_reducible refine wpe_pop ?_ | with_reducible refine wpe_tup ?_ | with_reducible refine wpe_lst ?_ | (refine wpa_nil ?_) | with_reducible refine wpa_cons ?_ | (refine wpo_none ?_) | with_reducible refine wpo_some ?_ | with_reducible refine wpt_test ?_ | with_reducible refine wpt_B ?_ | with_reducible refine wpt_and ?_ | with_reducible refine wpt_or ?_ | with_reducible refine wpt_not ?_ | (refine wpt_yes ?_) | with_reducible refine wps_seq ?_ | with_reducible refine wps_set ?_ | with_reducible refine wps_ret ?_ | with_reducible refine wps_if ?_ | with_reducible refine wps_par ?_ | with_reducible refine wps_app ?_ | (refine wps_next ?_) | (refine wps_brk ?_) | (refine wps_cont ?_) | (refine wps_retN ?_) | with_reducible refine wps_drop ?_ | with_reducible refine wps_asg ?_ | with_reducible refine wpe_fld (by assumption) (by simp) ?_)
local macro_rules | `(tactic| walk_at "w") => `(tactic| (walk_at "wx"; repeat (walk_at "wx")))
local macro_rules | `(tactic| walk_at "gx") => `(tactic| first | (walk_at "wx") | with_reducible refine wpe_cA1 ?_ | with_reducible refine wpe_cA2 ?_ | with_reducible refine wpe_cA3 ?_ | with_reducible refine wpe_cB1 ?_ | with_reducible refine wpe_cB2 ?_ | with_reducible refine wpe_cB3 ?_ | with_reducible refine wpe_cB4 ?_ | with_reducible refine wpe_cB5 ?_ | (refine wpe_cN0 rfl ?_) | (refine wpe_cN1 rfl ?_) | (refine wpe_cN2 rfl ?_) | (refine wpe_cN3 rfl ?_) | (refine ⟨_, rfl, ?_⟩) | (refine ⟨_, _, rfl, rfl, ?_⟩) | (refine ⟨_, _, _, rfl, rfl, rfl, ?_⟩) | (refine ⟨_, _, _, _, rfl, rfl, rfl, rfl, rfl, ?_⟩) | (refine ⟨_, _, _, _, rfl, rfl, rfl, rfl, ?_⟩) | (refine ⟨_, _, _, _, _, rfl, rfl, rfl, rfl, rfl, ?_⟩) | (refine ⟨_, _, rfl, ?_⟩))
local macro_rules | `(tactic| walk_at "g") => `(tactic| (walk_at "gx"; repeat (walk_at "gx")))
local macro_rules | `(tactic| walk_at "ln") => `(tactic| first | omega | (simp [LL, rowD, iL, iN]; done) | (simp [LL, rowD, iL, iN]; omega) | (simp [LL, rowD, iL, iN] at *; omega))
/-! ### plain: brackets struck out in any order -/
section
variable {i : Int} {g : Nat → Int}
def redG (i : Int) (g : Nat → Int) (st : List Nat × List Nat) (l : List Nat) : List Nat × List Nat := l.foldl (fun st k => leftS i st (g k, k)) st
theorem redG_app (st : List Nat × List Nat) (a b : List Nat) : redG i g st (a ++ b) = redG i g (redG i g st a) b := List.foldl_append
theorem red_pair {st : List Nat × List Nat} {a b : Nat} (ha : g a = i) (hb : g b = i + 1) : redG i g st [a, b] = st := by
  show leftS i (leftS i st (g a, a)) (g b, b) = st
  have e1 : leftS i st (g a, a) = (st.1, st.2 ++ [a]) := if_pos ha
  rw [e1]
  unfold leftS
  rw [if_neg (by show ¬ g b = i; omega), if_pos hb, if_pos (by simp)]
  simp
theorem red_strike {left : List Nat} {t a b : Nat} (h1 : left[t]? = some a) (h2 : left[t + 1]? = some b) (ha : g a = i) (hb : g b = i + 1) (st : List Nat × List Nat) : redG i g st (left.take t ++ left.drop (t + 2)) = redG i g st left := by
  have e : left = left.take t ++ ([a, b] ++ left.drop (t + 2)) := by
    have hl := (List.getElem?_eq_some_iff.mp h2).1
    conv => lhs; rw [← List.take_append_drop t left]
    congr 1
    rw [List.drop_eq_getElem_cons (by omega), List.drop_eq_getElem_cons (by omega)]
    have q1 := (List.getElem?_eq_some_iff.mp h1).2
    have q2 := (List.getElem?_eq_some_iff.mp h2).2
    rw [q1, q2]
    rfl
  conv => rhs; rw [e]
  rw [redG_app, redG_app, redG_app, red_pair ha hb]
def npF (i : Int) (g : Nat → Int) : List Nat → Prop
  | a :: b :: l => ¬ (g a = i ∧ g b = i + 1) ∧ npF i g (b :: l)
  | _ => True
theorem np_of : ∀ {l : List Nat}, (∀ t a b, l[t]? = some a → l[t + 1]? = some b → ¬ (g a = i ∧ g b = i + 1)) → npF i g l
  | [], _ => True.intro
  | [_], _ => True.intro
  | a :: b :: l, h => ⟨h 0 a b rfl rfl, np_of fun t x y h1 h2 => h (t + 1) x y (by simpa using h1) (by simpa using h2)⟩
theorem np_all : ∀ {l : List Nat} {a : Nat}, npF i g (a :: l) → g a = i → (∀ k ∈ l, g k = i ∨ g k = i + 1) → ∀ k ∈ l, g k = i
  | [], _, _, _, _, k, hk => by cases hk
  | b :: l, a, h, ha, hm, k, hk => by
    have hb : g b = i := (hm b List.mem_cons_self).resolve_right fun e => h.1 ⟨ha, e⟩
    rcases List.mem_cons.mp hk with e | hk
    · rw [e]
      exact hb
    · exact np_all h.2 hb (fun k hk => hm k (List.mem_cons_of_mem _ hk)) k hk
theorem red_np : ∀ {l : List Nat} {hi lo : List Nat}, npF i g l → (∀ k ∈ l, g k = i ∨ g k = i + 1) → (lo ≠ [] → ∀ k ∈ l, g k = i) →
    redG i g (hi, lo) l = (hi ++ l.filter (fun k => decide (g k = i + 1)), lo ++ l.filter (fun k => decide (g k = i)))
  | [], hi, lo, _, _, _ => by simp [redG]
  | a :: l, hi, lo, h, hm, hlo => by
    have hm' : ∀ k ∈ l, g k = i ∨ g k = i + 1 := fun k hk => hm k (List.mem_cons_of_mem _ hk)
    have h' : npF i g l := by
      cases l with
      | nil => exact True.intro
      | cons b l => exact h.2
    show redG i g (leftS i (hi, lo) (g a, a)) l = _
    rcases hm a List.mem_cons_self with ha | ha
    · have e1 : leftS i (hi, lo) (g a, a) = (hi, lo ++ [a]) := if_pos ha
      rw [e1, red_np h' hm' fun _ => np_all h ha hm', List.filter_cons, List.filter_cons, if_neg (by simp; omega), if_pos (by simp [ha])]
      simp
    · have hl0 : lo = [] := Classical.byContradiction fun z => by
        have := hlo z a List.mem_cons_self
        omega
      subst hl0
      have e1 : leftS i (hi, []) (g a, a) = (hi ++ [a], []) := by
        unfold leftS
        rw [if_neg (by show ¬ g a = i; omega), if_pos ha, if_neg (by simp)]
      rw [e1, red_np h' hm' fun z => absurd rfl z, List.filter_cons, List.filter_cons, if_pos (by simp [ha]), if_neg (by simp; omega)]
      simp
end
def gAt (w : List Int) (k : Nat) : Int := w.getD k 0
def left0F (i : Int) (w : List Int) : List Nat := (w.zipIdx.filter fun p => decide (p.1 = i ∨ p.1 = i + 1)).map (·.2)
theorem red_zip (i : Int) (w : List Int) : ∀ {ps : List (Int × Nat)} {st : List Nat × List Nat}, (∀ p ∈ ps, p ∈ w.zipIdx) → ps.foldl (leftS i) st = redG i (gAt w) st ((ps.filter fun p => decide (p.1 = i ∨ p.1 = i + 1)).map (·.2))
  | [], _, _ => rfl
  | p :: ps, st, h => by
    have ih := fun st => red_zip i w (ps := ps) (st := st) fun q hq => h q (List.mem_cons_of_mem _ hq)
    have hp := h p List.mem_cons_self
    have hg : gAt w p.2 = p.1 := by
      have := List.mk_mem_zipIdx_iff_getElem?.mp (show (p.1, p.2) ∈ w.zipIdx from hp)
      simp [gAt, List.getD_eq_getElem?_getD, this]
    rw [List.foldl_cons, List.filter_cons]
    by_cases e : p.1 = i ∨ p.1 = i + 1
    · rw [if_pos (decide_eq_true e), ih, List.map_cons]
      show _ = redG i (gAt w) (leftS i st (gAt w p.2, p.2)) _
      rw [hg]
    · rw [if_neg (by simpa using e), ih]
      congr 1
      unfold leftS
      rw [if_neg fun z => e (.inl z), if_neg fun z => e (.inr z)]
theorem red_left (i : Int) (w : List Int) : redG i (gAt w) ([], []) (left0F i w) = leftF i w := (red_zip i w fun _ h => h).symm
theorem left0_mem {i : Int} {w : List Int} {k : Nat} (h : k ∈ left0F i w) : k < w.length ∧ (gAt w k = i ∨ gAt w k = i + 1) := by
  obtain ⟨p, hp, rfl⟩ := List.mem_map.mp h
  obtain ⟨h1, h2⟩ := List.mem_filter.mp hp
  have := List.mk_mem_zipIdx_iff_getElem?.mp (show (p.1, p.2) ∈ w.zipIdx from h1)
  refine ⟨(List.getElem?_eq_some_iff.mp this).1, ?_⟩
  have hg : gAt w p.2 = p.1 := by simp [gAt, List.getD_eq_getElem?_getD, this]
  rw [hg]
  simpa using h2
def W_left : WfN := fun ds c Φ => ∃ (w : List Int) (i : Int), ds = [.list (iL w), .int i] ∧ w.length ≤ 100 ∧ c + w.length < 1000000000 ∧ ∀ c', c ≤ c' → c' ≤ c + w.length → Φ (.tuple [.list (iN (leftF i w).1), .list (iN (leftF i w).2)]) c'
theorem enum_iL (w : List Int) : enumD (iL w) = w.zipIdx.map fun p => .tuple [.int (p.2 : Int), .int p.1] := by
  unfold enumD iL
  rw [List.zipIdx_map, List.map_map]
  rfl
theorem gAt_get {w : List Int} {k : Nat} (h : k < w.length) : atI ((iL w).map W.d) (k : Int) = some (.d (.int (gAt w k))) :=
  atI_d (atI_nat (Int.natCast_nonneg k) (by rw [Int.toNat_natCast, iL, List.getElem?_map, List.getElem?_eq_getElem h]; simp [gAt, h]))
theorem iN_get {l : List Nat} {t a : Nat} (h : l[t]? = some a) : atI ((iN l).map W.d) (t : Int) = some (.d (.int (a : Int))) :=
  atI_d (atI_nat (Int.natCast_nonneg t) (by rw [Int.toNat_natCast, iN, List.getElem?_map, h]; rfl))
theorem w_law_left {C : Cn} {A : Ads} {ds : List PyData} {c : Nat} {Φ : PyData → Nat → Prop} (h : W_left ds c Φ) : wps C (t__law_left C.K A (spN C.K C.cl C.pk W_pick)) (start0 (.pen :: ds.map .d) 9 c) (DN Φ) := by
  obtain ⟨w, i, rfl, hl, hc, h⟩ := h
  unfold t__law_left
  refine wps_seq (wps_set ?_)
  refine wpe_lcP (α := Int × Nat) w.zipIdx (fun p => .tuple [.int (p.2 : Int), .int p.1]) (fun p => decide (p.1 = i ∨ p.1 = i + 1)) (fun p => .int (p.2 : Int)) (tgw_tup2 (by simp) (by simp)) ?_
  refine wpi_enum ?_
  walk_at "w"
  refine ⟨iL w, rfl, enum_iL w, by simp; omega, ?_, ?_⟩
  · rintro ⟨x, k⟩ hx ⟨sl, ms, c2⟩ e1 e2 e3
    have e1 : sl = _ := e1
    subst e1
    refine wpg_tup2 ?_
    walk_at "w"
    refine ⟨_, _, rfl, rfl, ?_⟩
    walk_at "w"
    refine ⟨[.int i, .int (i + 1)], rfl, by simp, x, [i, i + 1], rfl, rfl, _, rfl, ?_, e2, rfl, fun _ => ?_⟩
    · rw [decide_eq_decide]
      simp
    · walk_at "w"
      exact ⟨rfl, e2, rfl⟩
  have e0 : ((w.zipIdx.filter fun p => decide (p.1 = i ∨ p.1 = i + 1)).map fun p => PyData.int (p.2 : Int)) = iN (left0F i w) := by
    rw [left0F, iN, List.map_map]
    rfl
  rw [e0]
  -- what holds when the striking out is over
  let Fin : S → Prop := fun s => ∃ (left : List Nat) (c' : Nat) (w4 w5 w6 w7 w8 : W), s = ⟨[.pen, .d (.list (iL w)), .d (.int i), .d (.list (iN left)), w4, w5, w6, w7, w8], [], c'⟩ ∧ c ≤ c' ∧ c' ≤ c + w.length ∧ left.length ≤ w.length ∧
    redG i (gAt w) ([], []) left = leftF i w ∧ (∀ k ∈ left, k < w.length ∧ (gAt w k = i ∨ gAt w k = i + 1)) ∧ npF i (gAt w) left
  have fin : ∀ s, Fin s → wps C (tRet (tTup (tCons (tLc (iList C.K (tVar 3)) (gName 5) (tTest (tOp rEq (tOp (rIx C.K) (tVar 1) (tVar 5)) (tOp rAddI (tVar 2) (tC (.int 1))))) (tVar 5) [5]) (tCons (tLc (iList C.K (tVar 3)) (gName 5) (tTest (tOp rEq (tOp (rIx C.K) (tVar 1) (tVar 5)) (tVar 2))) (tVar 5) [5]) tNil)))) s (DN Φ) := by
    rintro s ⟨left, c', w4, w5, w6, w7, w8, rfl, hc1, hc2, hll, hr, hm, hnp⟩
    have hres := red_np (hi := []) (lo := []) hnp (fun k hk => (hm k hk).2) fun z => absurd rfl z
    rw [hr] at hres
    simp only [List.nil_append] at hres
    refine wps_ret (wpe_tup (wpa_cons ?_))
    refine wpe_lcP left (fun k => .int (k : Int)) (fun k => decide (gAt w k = i + 1)) (fun k => .int (k : Int)) (tgw_name (by simp)) ?_
    refine wpi_list ?_
    walk_at "w"
    refine ⟨_, rfl, rfl, by omega, ?_, ?_⟩
    · rintro k hk ⟨sl, ms, c2⟩ e1 e2 e3
      have e1 : sl = _ := e1
      subst e1
      refine wpg_name ?_
      walk_at "w"
      refine ⟨(iL w).map W.d, _, _, rfl, rfl, gAt_get (hm k hk).1, ?_⟩
      walk_at "w"
      refine ⟨_, _, rfl, rfl, _, _, _, _, rfl, rfl, rfl, rfl, rfl, _, rfl, ?_, e2, rfl, fun _ => ?_⟩
      · simp
      · walk_at "w"
        exact ⟨rfl, e2, rfl⟩
    refine wpa_cons ?_
    refine wpe_lcP left (fun k => .int (k : Int)) (fun k => decide (gAt w k = i)) (fun k => .int (k : Int)) (tgw_name (by simp)) ?_
    refine wpi_list ?_
    walk_at "w"
    refine ⟨_, rfl, rfl, by omega, ?_, ?_⟩
    · rintro k hk ⟨sl, ms, c2⟩ e1 e2 e3
      have e1 : sl = _ := e1
      subst e1
      refine wpg_name ?_
      walk_at "w"
      refine ⟨(iL w).map W.d, _, _, rfl, rfl, gAt_get (hm k hk).1, ?_⟩
      walk_at "w"
      refine ⟨_, _, _, _, rfl, rfl, rfl, rfl, rfl, _, rfl, ?_, e2, rfl, fun _ => ?_⟩
      · simp
      · walk_at "w"
        exact ⟨rfl, e2, rfl⟩
    walk_at "w"
    refine ⟨[.list (iN (leftF i w).1), .list (iN (leftF i w).2)], ?_, by simp, _, rfl, h c' hc1 hc2⟩
    rw [hres]
    rfl
  refine wps_seq ?_
  refine wps_for (items := rng 0 w.length) (fun j s => ∃ (left : List Nat) (c' : Nat) (w4 w5 w6 w7 w8 : W), s = ⟨[.pen, .d (.list (iL w)), .d (.int i), .d (.list (iN left)), w4, w5, w6, w7, w8], [], c'⟩ ∧ c' = c + j ∧ left.length + 2 * j ≤ w.length ∧
    redG i (gAt w) ([], []) left = leftF i w ∧ (∀ k ∈ left, k < w.length ∧ (gAt w k = i ∨ gAt w k = i + 1))) ?_ ?_ ?_
  · refine wpi_rng1 ?_
    walk_at "w"
    refine ⟨_, _, rfl, rfl, ?_⟩
    walk_at "w"
    refine ⟨_, rfl, by rw [List.length_map, iL_len]; omega, by omega, by rw [List.length_map, iL_len]; rfl, left0F i w, c, _, _, _, _, _, rfl, rfl, ?_, red_left i w, fun k hk => left0_mem hk⟩
    rw [left0F, List.length_map]
    exact Nat.le_trans (List.length_filter_le _ _) (by simp)
  · rintro j d s1 hd ⟨left, c', w4, w5, w6, w7, w8, rfl, rfl, hll, hr, hm⟩
    obtain ⟨hj, rfl⟩ := rng_get hd
    refine wpg_name ?_
    refine wps_seq (wps_set ?_)
    refine wpe_lcP (List.range (left.length - 1)) (fun t => .int (1 + (t : Int))) (fun t => decide (gAt w (left.getD t 0) = i) && decide (gAt w (left.getD (t + 1) 0) = i + 1)) (fun t => .int (1 + (t : Int))) (tgw_name (by simp)) ?_
    refine wpi_rng2 ?_
    walk_at "w"
    refine ⟨_, _, rfl, rfl, ?_⟩
    walk_at "w"
    refine ⟨_, _, rfl, by simp [iN]; omega, by omega, by omega, by omega, ?_, by simp; omega, ?_, ?_⟩
    · rw [List.length_map, iN, List.length_map, show ((left.length : Int) - 1).toNat = left.length - 1 by omega]
      rfl
    · rintro t ht ⟨sl, ms, c2⟩ e1 e2 e3
      have e1 : sl = _ := e1
      subst e1
      have ht := List.mem_range.mp ht
      have l1 : left[t]? = some (left.getD t 0) := by
        rw [List.getD_eq_getElem?_getD, List.getElem?_eq_getElem (by omega)]
        rfl
      have l2 : left[t + 1]? = some (left.getD (t + 1) 0) := by
        rw [List.getD_eq_getElem?_getD, List.getElem?_eq_getElem (by omega)]
        rfl
      refine wpg_name ?_
      refine wpt_and ?_
      walk_at "w"
      refine ⟨_, _, rfl, rfl, ?_⟩
      rw [show (1 : Int) + (t : Int) - 1 = (t : Int) by omega]
      refine ⟨_, _, _, rfl, rfl, iN_get l1, _, _, _, rfl, rfl, gAt_get (hm _ (List.mem_of_getElem? l1)).1, ?_⟩
      walk_at "w"
      refine ⟨_, _, _, _, rfl, rfl, rfl, rfl, rfl, _, rfl, fun e => ?_, fun e => ?_⟩
      · have e : gAt w (left.getD t 0) = i := by simpa using e
        walk_at "w"
        rw [show (1 : Int) + (t : Int) = ((t + 1 : Nat) : Int) by omega]
        refine ⟨_, _, _, rfl, rfl, iN_get l2, _, _, _, rfl, rfl, gAt_get (hm _ (List.mem_of_getElem? l2)).1, ?_⟩
        walk_at "w"
        refine ⟨_, _, rfl, rfl, _, _, _, _, rfl, rfl, rfl, rfl, rfl, _, rfl, ?_, e2, rfl, fun _ => ?_⟩
        · rw [e]
          simp
        · walk_at "w"
          exact ⟨rfl, e2, rfl⟩
      · have e : ¬ gAt w (left.getD t 0) = i := by simpa using e
        have eb : (decide (gAt w (left.getD t 0) = i) && decide (gAt w (left.getD (t + 1) 0) = i + 1)) = false := by
          rw [decide_eq_false e]
          rfl
        exact ⟨eb.symm, e2, rfl, fun z => by rw [eb] at z; cases z⟩
    generalize hP : (List.range (left.length - 1)).filter (fun t => decide (gAt w (left.getD t 0) = i) && decide (gAt w (left.getD (t + 1) 0) = i + 1)) = pr
    refine wps_seq ?_
    walk_at "w"
    refine ⟨[], rfl, by simp, _, _, rfl, rfl, ?_, rfl, _, rfl, fun e => ?_, fun e => ?_⟩
    · refine pl_list fun d hd => ?_
      obtain ⟨x, _, rfl⟩ := List.mem_map.mp hd
      exact pl_int
    · rw [eqv_nil, List.isEmpty_map] at e
      have e : pr = [] := List.isEmpty_iff.mp e
      refine wps_brk ?_
      refine fin _ ⟨left, c + j, _, _, _, _, _, rfl, by omega, by omega, by omega, hr, hm, np_of fun t a b h1 h2 hab => ?_⟩
      have hl2 := (List.getElem?_eq_some_iff.mp h2).1
      have : t ∈ pr := by
        rw [← hP]
        refine List.mem_filter.mpr ⟨List.mem_range.mpr (by omega), ?_⟩
        simp [List.getD_eq_getElem?_getD, h1, h2, hab.1, hab.2]
      rw [e] at this
      cases this
    · rw [eqv_nil, List.isEmpty_map] at e
      have e : pr ≠ [] := fun z => by
        rw [z] at e
        cases e
      walk_at "g"
      refine ⟨by simpa using e, ?_, by show c + j < 1000000000; omega, fun d hd => ?_⟩
      · have : pr.length ≤ left.length - 1 := by
          rw [← hP]
          exact Nat.le_trans (List.length_filter_le _ _) (by simp)
        simp
        omega
      obtain ⟨t, ht, rfl⟩ := List.mem_map.mp hd
      rw [← hP] at ht
      obtain ⟨ht1, ht2⟩ := List.mem_filter.mp ht
      have ht1 := List.mem_range.mp ht1
      have l1 : left[t]? = some (left.getD t 0) := by
        rw [List.getD_eq_getElem?_getD, List.getElem?_eq_getElem (by omega)]
        rfl
      have l2 : left[t + 1]? = some (left.getD (t + 1) 0) := by
        rw [List.getD_eq_getElem?_getD, List.getElem?_eq_getElem (by omega)]
        rfl
      have hab : gAt w (left.getD t 0) = i ∧ gAt w (left.getD (t + 1) 0) = i + 1 := by simpa using ht2
      walk_at "g"
      have c1 : cut (iN left) none (some (1 + (t : Int) - 1)) = iN (left.take t) := by
        rw [cut_toI _ (k := t) (by omega), iN, ← List.map_take]
        rfl
      have c2 : cut (iN left) (some (1 + (t : Int) + 1)) none = iN (left.drop (t + 2)) := by
        rw [cut_fromI _ (k := t + 2) (by omega), iN, ← List.map_drop]
        rfl
      rw [c1, c2]
      have hl2 := (List.getElem?_eq_some_iff.mp l2).1
      refine ⟨by simp [iN]; omega, left.take t ++ left.drop (t + 2), c + j + 1, .d (.int (0 + (j : Int))), .d (.int (1 + (t : Int))), .d (.list (pr.map fun (t : Nat) => PyData.int (1 + (t : Int)))), w7, w8, ?_, rfl, ?_, ?_, fun k hk => ?_⟩
      · simp only [iN, List.map_append]
        rfl
      · rw [List.length_append, List.length_take, List.length_drop]
        omega
      · rw [red_strike l1 l2 hab.1 hab.2]
        exact hr
      · rcases List.mem_append.mp hk with q | q
        · exact hm k (List.mem_of_mem_take q)
        · exact hm k (List.mem_of_mem_drop q)
  · rintro s1 ⟨left, c', w4, w5, w6, w7, w8, rfl, rfl, hll, hr, hm⟩
    rw [rng_len] at hll ⊢
    have hw : left = [] := List.length_eq_zero_iff.mp (by omega)
    refine fin _ ⟨left, c + w.length, _, _, _, _, _, rfl, by omega, by omega, by omega, hr, hm, ?_⟩
    rw [hw]
    exact True.intro
end P75
set_option Elab.async false
set_option linter.all false
set_option maxRecDepth 100000
set_option maxHeartbeats 4000000
namespace P75
open PySem L2 Evl DL RZ
local macro_rules | `(tactic| walk_at "wx") => `(tactic| first | (refine wpe_var rfl rfl ?_) | (refine wpe_int ?_) | (refine wpe_str ?_) | (refine wpe_non ?_) | (refine wpe_bl ?_) | (refine wpe_ty ?_) | (refine wpe_ref ?_) | with_reducible refine wpe_add ?_ | with_reducible refine wpe_sub ?_ | with_reducible refine wpe_mul ?_ | with_reducible refine wpe_mod ?_ | with_reducible refine wpe_fdiv ?_ | with_reducible refine wpe_pow ?_ | with_reducible refine wpe_lt ?_ | with_reducible refine wpe_le ?_ | with_reducible refine wpe_gt ?_ | with_reducible refine wpe_ge ?_ | with_reducible refine wpe_eqS ?_ | with_reducible refine wpe_neS ?_ | with_reducible refine wpe_neg ?_ | with_reducible refine wpe_chainLeLt ?_ | with_reducible refine wpe_chainLeLe ?_ | with_reducible refine wpe_eqD ?_ | with_reducible refine wpe_neD ?_ | with_reducible refine wpe_isNn ?_ | with_reducible refine wpe_notNn ?_ | with_reducible refine wpe_inI ?_ | with_reducible refine wpe_if ?_ | with_reducible refine wpe_andV ?_ | with_reducible refine wpe_orV ?_ | with_reducible refine wpe_notV ?_ | with_reducible refine wpe_ix ?_ | with_reducible refine wpe_slL ?_ | with_reducible refine wpe_slA ?_ | with_reducible refine wpe_cat ?_ | with_reducible refine wpe_catA ?_ | with_reducible refine wpe_rep ?_ | with_reducible refine wpe_isiR ?_ | (refine wpe_isiI (by simp) ?_) | with_reducible refine wpe_len ?_ | with_reducible refine wpe_listOf ?_ | with_reducible refine wpe_tupleOf ?_ | with_reducible refine wpe_all ?_ | with_reducible refine wpe_any ?_ | with_reducible refine wpe_sum ?_ | with_reducible refine wpe_max ?_ | with_reducible refine wpe_sortedI ?_ | with_reducible refine wpe_intOf ?_ | with_reducible refine wpe_isi ?_ | with_reducible refine wpe_count ?_ | with_reducible refine wpe_pop ?_ | with_reducible refine wpe_tup ?_ | with_reducible refine wpe_lst ?_ | (refine wpa_nil ?_) | with_reducible refine wpa_cons ?_ | (refine wpo_none ?_) | with_reducible refine wpo_some ?_ | with_reducible refine wpt_test ?_ | with_reducible refine wpt_B ?_ | with_reducible refine wpt_and ?_ | with_reducible refine wpt_or ?_ | with_reducible refine wpt_not ?_ | (refine wpt_yes ?_) | with_reducible refine wps_seq ?_ | with_reducible refine wps_set ?_ | with_reducible refine wps_ret ?_ | with_reducible refine wps_if ?_ | with_reducible refine wps_par ?_ | with_reducible refine wps_app ?_ | (refine wps_next ?_) | (refine wps_brk ?_) | (refine wps_cont ?_) | (refine wps_retN ?_) | with_reducible refine wps_drop ?_ | with_reducible refine wps_asg ?_ | with_reducible refine wpe_fld (by assumption) (by simp) ?_)
local macro_rules | `(tactic| walk_at "w") => `(tactic| (walk_at "wx"; repeat (walk_at "wx")))
local macro_rules | `(tactic| walk_at "gx") => `(tactic| first | (walk_at "wx") | with_reducible refine wpe_cA1 ?_ | with_reducible refine wpe_cA2 ?_ | with_reducible refine wpe_cA3 ?_ | with_reducible refine wpe_cB1 ?_ | with_reducible refine wpe_cB2 ?_ | with_reducible refine wpe_cB3 ?_ | with_reducible refine wpe_cB4 ?_ | with_reducible refine wpe_cB5 ?_ | (refine wpe_cN0 rfl ?_) | (refine wpe_cN1 rfl ?_) | (refine wpe_cN2 rfl ?_) | (refine wpe_cN3 rfl ?_) | (refine ⟨_, rfl, ?_⟩) | (refine ⟨_, _, rfl, rfl, ?_⟩) | (refine ⟨_, _, _, rfl, rfl, rfl, ?_⟩) | (refine ⟨_, _, _, _, rfl, rfl, rfl, rfl, rfl, ?_⟩) | (refine ⟨_, _, _, _, rfl, rfl, rfl, rfl, ?_⟩) | (refine ⟨_, _, _, _, _, rfl, rfl, rfl, rfl, rfl, ?_⟩) | (refine ⟨_, _, rfl, ?_⟩))
local macro_rules | `(tactic| walk_at "g") => `(tactic| (walk_at "gx"; repeat (walk_at "gx")))
local macro_rules | `(tactic| walk_at "ln") => `(tactic| first | omega | (simp [LL, rowD, iL, iN]; done) | (simp [LL, rowD, iL, iN]; omega) | (simp [LL, rowD, iL, iN] at *; omega))
/-! ### plain: lowered and raised again -/
section
variable {i : Int}
theorem step_lo {h l : List Nat} {p : Int × Nat} (e : p.1 = i) : leftS i (h, l) p = (h, l ++ [p.2]) := if_pos e
theorem step_pop {h l : List Nat} {p : Int × Nat} (e : p.1 = i + 1) (hl : l ≠ []) : leftS i (h, l) p = (h, l.dropLast) := by
  unfold leftS
  rw [if_neg (by omega), if_pos e, if_pos (List.length_pos_iff.mpr hl)]
theorem step_hi {h : List Nat} {p : Int × Nat} (e : p.1 = i + 1) : leftS i (h, []) p = (h ++ [p.2], []) := by
  unfold leftS
  rw [if_neg (by omega), if_pos e, if_neg (by simp)]
theorem step_no {st : List Nat × List Nat} {p : Int × Nat} (e1 : ¬ p.1 = i) (e2 : ¬ p.1 = i + 1) : leftS i st p = st := by
  unfold leftS
  rw [if_neg e1, if_neg e2]
/-- the open ones: what was open, cut, and new ones -/
theorem fold_lo : ∀ (L : List (Int × Nat)) (h l : List Nat), ∃ m r, (L.foldl (leftS i) (h, l)).2 = l.take m ++ r ∧ ∀ a ∈ r, ∃ p ∈ L, p.2 = a
  | [], h, l => ⟨l.length, [], by simp, fun a ha => by cases ha⟩
  | p :: L, h, l => by
    rw [List.foldl_cons]
    by_cases e1 : p.1 = i
    · rw [step_lo e1]
      obtain ⟨m, r, e, hr⟩ := fold_lo L h (l ++ [p.2])
      by_cases hm : m ≤ l.length
      · exact ⟨m, r, by rw [e, List.take_append_of_le_length hm], fun a ha => (hr a ha).imp fun q hq => ⟨List.mem_cons_of_mem _ hq.1, hq.2⟩⟩
      · refine ⟨l.length, p.2 :: r, ?_, fun a ha => ?_⟩
        · rw [e, List.take_of_length_le (by simp; omega), List.take_length]
          simp
        · rcases List.mem_cons.mp ha with q | q
          · exact ⟨p, List.mem_cons_self, q.symm⟩
          · exact (hr a q).imp fun q hq => ⟨List.mem_cons_of_mem _ hq.1, hq.2⟩
    · by_cases e2 : p.1 = i + 1
      · by_cases hl : l = []
        · subst hl
          rw [step_hi e2]
          obtain ⟨m, r, e, hr⟩ := fold_lo L (h ++ [p.2]) []
          exact ⟨m, r, e, fun a ha => (hr a ha).imp fun q hq => ⟨List.mem_cons_of_mem _ hq.1, hq.2⟩⟩
        · rw [step_pop e2 hl]
          obtain ⟨m, r, e, hr⟩ := fold_lo L h l.dropLast
          refine ⟨min m (l.length - 1), r, ?_, fun a ha => (hr a ha).imp fun q hq => ⟨List.mem_cons_of_mem _ hq.1, hq.2⟩⟩
          rw [e, List.dropLast_eq_take, List.take_take]
      · rw [step_no e1 e2]
        obtain ⟨m, r, e, hr⟩ := fold_lo L h l
        exact ⟨m, r, e, fun a ha => (hr a ha).imp fun q hq => ⟨List.mem_cons_of_mem _ hq.1, hq.2⟩⟩
theorem fold_hi : ∀ (L : List (Int × Nat)) (h l : List Nat), ∃ r, (L.foldl (leftS i) (h, l)).1 = h ++ r ∧ ∀ a ∈ r, ∃ p ∈ L, p.2 = a
  | [], h, l => ⟨[], by simp, fun a ha => by cases ha⟩
  | p :: L, h, l => by
    rw [List.foldl_cons]
    have up : ∀ {r : List Nat}, (∀ a ∈ r, ∃ p ∈ L, p.2 = a) → ∀ a ∈ r, ∃ q ∈ p :: L, q.2 = a := fun hr a ha => (hr a ha).imp fun q hq => ⟨List.mem_cons_of_mem _ hq.1, hq.2⟩
    by_cases e1 : p.1 = i
    · rw [step_lo e1]
      obtain ⟨r, e, hr⟩ := fold_hi L h (l ++ [p.2])
      exact ⟨r, e, up hr⟩
    · by_cases e2 : p.1 = i + 1
      · by_cases hl : l = []
        · subst hl
          rw [step_hi e2]
          obtain ⟨r, e, hr⟩ := fold_hi L (h ++ [p.2]) []
          refine ⟨p.2 :: r, by rw [e]; simp, fun a ha => ?_⟩
          rcases List.mem_cons.mp ha with q | q
          · exact ⟨p, List.mem_cons_self, q.symm⟩
          · exact up hr a q
        · rw [step_pop e2 hl]
          obtain ⟨r, e, hr⟩ := fold_hi L h l.dropLast
          exact ⟨r, e, up hr⟩
      · rw [step_no e1 e2]
        obtain ⟨r, e, hr⟩ := fold_hi L h l
        exact ⟨r, e, up hr⟩
theorem drop_cons {k : Nat} {s : List Nat} (hs : s ≠ []) : (k :: s).dropLast = k :: s.dropLast := by
  cases s with
  | nil => exact absurd rfl hs
  | cons a s => rfl
/-- the lowest open one stays: it might as well be closed above -/
theorem fold_down {k : Nat} : ∀ (L : List (Int × Nat)) {h s h' l' : List Nat}, (∀ p ∈ L, p.2 ≠ k) → L.foldl (leftS i) (h, k :: s) = (h', k :: l') → h' = h ∧ L.foldl (leftS i) (h ++ [k], s) = (h ++ [k], l')
  | [], h, s, h', l', _, e => by
    cases e
    exact ⟨rfl, rfl⟩
  | p :: L, h, s, h', l', hL, e => by
    have hL' : ∀ p ∈ L, p.2 ≠ k := fun q hq => hL q (List.mem_cons_of_mem _ hq)
    rw [List.foldl_cons] at e ⊢
    by_cases e1 : p.1 = i
    · rw [step_lo e1] at e ⊢
      exact fold_down L hL' e
    · by_cases e2 : p.1 = i + 1
      · rw [step_pop e2 (List.cons_ne_nil _ _)] at e
        by_cases hs : s = []
        · subst hs
          exfalso
          obtain ⟨m, r, q, hr⟩ := fold_lo (i := i) L h ([k] : List Nat).dropLast
          rw [e] at q
          have : k ∈ r := by
            have q : k :: l' = r := by simpa using q
            rw [← q]
            exact List.mem_cons_self
          obtain ⟨p2, hp2, hk⟩ := hr k this
          exact hL' p2 hp2 hk
        · rw [drop_cons hs] at e
          rw [step_pop e2 hs]
          exact fold_down L hL' e
      · rw [step_no e1 e2] at e ⊢
        exact fold_down L hL' e
/-- and back -/
theorem fold_up {k : Nat} : ∀ (L : List (Int × Nat)) {h s l' : List Nat}, L.foldl (leftS i) (h ++ [k], s) = (h ++ [k], l') → L.foldl (leftS i) (h, k :: s) = (h, k :: l')
  | [], h, s, l', e => by
    cases e
    rfl
  | p :: L, h, s, l', e => by
    rw [List.foldl_cons] at e ⊢
    by_cases e1 : p.1 = i
    · rw [step_lo e1] at e ⊢
      exact fold_up L e
    · by_cases e2 : p.1 = i + 1
      · by_cases hs : s = []
        · subst hs
          exfalso
          rw [step_hi e2] at e
          obtain ⟨r, q, _⟩ := fold_hi (i := i) L (h ++ [k] ++ [p.2]) []
          rw [e] at q
          have := congrArg List.length q
          simp at this
        · rw [step_pop e2 hs] at e
          rw [step_pop e2 (List.cons_ne_nil _ _), drop_cons hs]
          exact fold_up L e
      · rw [step_no e1 e2] at e ⊢
        exact fold_up L e
end
theorem leftF_split (i : Int) (a b : List Int) (x : Int) : leftF i (a ++ x :: b) = (b.zipIdx (a.length + 1)).foldl (leftS i) (leftS i (leftF i a) (x, a.length)) := by
  unfold leftF
  rw [List.zipIdx_append, List.foldl_append, List.zipIdx_cons, List.foldl_cons]
  simp
theorem split_at {w : List Int} {k : Nat} (h : k < w.length) : ∃ a x b, w = a ++ x :: b ∧ a.length = k := ⟨w.take k, w[k], w.drop (k + 1), by simp, by simp; omega⟩
theorem chg_at (a b : List Int) (x y : Int) : chg (a ++ x :: b) a.length y = a ++ y :: b := by
  unfold chg
  simp
theorem zip_lt {a : List Int} {p : Int × Nat} (h : p ∈ a.zipIdx) : p.2 < a.length := by
  have := List.mk_mem_zipIdx_iff_getElem?.mp (show (p.1, p.2) ∈ a.zipIdx from h)
  exact (List.getElem?_eq_some_iff.mp this).1
theorem zip_gt {b : List Int} {n : Nat} {p : Int × Nat} (h : p ∈ b.zipIdx (n + 1)) : n < p.2 := by
  have := List.le_snd_of_mem_zipIdx h
  omega
theorem leftF_mem (i : Int) (w : List Int) : (∀ k ∈ (leftF i w).1, k < w.length) ∧ ∀ k ∈ (leftF i w).2, k < w.length := by
  refine ⟨fun k hk => ?_, fun k hk => ?_⟩
  · obtain ⟨r, e, hr⟩ := fold_hi (i := i) w.zipIdx [] []
    have e : (leftF i w).1 = r := e
    rw [e] at hk
    obtain ⟨p, hp, rfl⟩ := hr k hk
    exact zip_lt hp
  · obtain ⟨m, r, e, hr⟩ := fold_lo (i := i) w.zipIdx [] []
    have e : (leftF i w).2 = r := by
      have : (leftF i w).2 = ([] : List Nat).take m ++ r := e
      simpa using this
    rw [e] at hk
    obtain ⟨p, hp, rfl⟩ := hr k hk
    exact zip_lt hp
theorem left_down {i : Int} {w : List Int} {hi lo : List Nat} {k : Nat} (h : leftF i w = (hi, k :: lo)) : k < w.length ∧ w[k]? = some i ∧ leftF i (chg w k (i + 1)) = (hi ++ [k], lo) := by
  have hk : k < w.length := (leftF_mem i w).2 k (by rw [h]; exact List.mem_cons_self)
  refine ⟨hk, ?_⟩
  obtain ⟨a, x, b, rfl, rfl⟩ := split_at hk
  rw [leftF_split] at h
  rcases hst : leftF i a with ⟨h0, l0⟩
  have hm := leftF_mem i a
  rw [hst] at h hm
  have hpost : ∀ p ∈ b.zipIdx (a.length + 1), p.2 ≠ a.length := fun p hp z => by
    have := zip_gt hp
    omega
  -- the letter is i, and nothing was open
  by_cases e1 : x = i
  · subst e1
    rw [step_lo (i := x) (p := (x, a.length)) rfl] at h
    have hl0 : l0 = [] := by
      obtain ⟨m, r, e, hr⟩ := fold_lo (i := x) (b.zipIdx (a.length + 1)) h0 (l0 ++ [a.length])
      rw [h] at e
      have e : a.length :: lo = (l0 ++ [a.length]).take m ++ r := e
      cases l0 with
      | nil => rfl
      | cons y l0 =>
        exfalso
        cases m with
        | zero =>
          have e : a.length :: lo = r := by simpa using e
          obtain ⟨p, hp, q⟩ := hr a.length (by rw [← e]; exact List.mem_cons_self)
          exact hpost p hp q
        | succ m =>
          have q : a.length = y := by
            have e : a.length :: lo = y :: ((l0 ++ [a.length]).take m ++ r) := e
            injection e
          have := hm.2 y List.mem_cons_self
          omega
    subst hl0
    obtain ⟨q1, q2⟩ := fold_down _ hpost h
    refine ⟨by simp, ?_⟩
    rw [chg_at, leftF_split, hst, step_hi (i := x) (p := (x + 1, a.length)) rfl, q1]
    exact q2
  · exfalso
    have key : ∀ l1 : List Nat, (∀ y ∈ l1, y < a.length) → ∀ h1, (b.zipIdx (a.length + 1)).foldl (leftS i) (h1, l1) ≠ (hi, a.length :: lo) := fun l1 hl1 h1 z => by
      obtain ⟨m, r, e, hr⟩ := fold_lo (i := i) (b.zipIdx (a.length + 1)) h1 l1
      rw [z] at e
      have : a.length ∈ l1.take m ++ r := by
        rw [← e]
        exact List.mem_cons_self
      rcases List.mem_append.mp this with q | q
      · have := hl1 _ (List.mem_of_mem_take q)
        omega
      · obtain ⟨p, hp, q⟩ := hr _ q
        exact hpost p hp q
    by_cases e2 : x = i + 1
    · by_cases hl : l0 = []
      · subst hl
        rw [step_hi e2] at h
        exact key [] (fun y hy => by cases hy) _ h
      · rw [step_pop e2 hl] at h
        exact key _ (fun y hy => hm.2 y (List.dropLast_subset _ hy)) _ h
    · rw [step_no e1 e2] at h
      exact key _ hm.2 _ h
theorem left_up {i : Int} {w : List Int} {hi lo : List Nat} {k : Nat} (h : leftF i w = (hi ++ [k], lo)) : k < w.length ∧ w[k]? = some (i + 1) ∧ leftF i (chg w k i) = (hi, k :: lo) := by
  have hk : k < w.length := (leftF_mem i w).1 k (by rw [h]; simp)
  refine ⟨hk, ?_⟩
  obtain ⟨a, x, b, rfl, rfl⟩ := split_at hk
  rw [leftF_split] at h
  rcases hst : leftF i a with ⟨h0, l0⟩
  have hm := leftF_mem i a
  rw [hst] at h hm
  have hpost : ∀ p ∈ b.zipIdx (a.length + 1), p.2 ≠ a.length := fun p hp z => by
    have := zip_gt hp
    omega
  have key : ∀ h1 : List Nat, (∀ y ∈ h1, y < a.length) → ∀ l1, (b.zipIdx (a.length + 1)).foldl (leftS i) (h1, l1) ≠ (hi ++ [a.length], lo) := fun h1 hh1 l1 z => by
    obtain ⟨r, e, hr⟩ := fold_hi (i := i) (b.zipIdx (a.length + 1)) h1 l1
    rw [z] at e
    have : a.length ∈ h1 ++ r := by
      rw [← e]
      simp
    rcases List.mem_append.mp this with q | q
    · have := hh1 _ q
      omega
    · obtain ⟨p, hp, q⟩ := hr _ q
      exact hpost p hp q
  by_cases e1 : x = i
  · exfalso
    rw [step_lo e1] at h
    exact key _ hm.1 _ h
  · by_cases e2 : x = i + 1
    · by_cases hl : l0 = []
      · subst hl e2
        rw [step_hi (i := i) (p := (i + 1, a.length)) rfl] at h
        have hh : hi = h0 := by
          obtain ⟨r, e, hr⟩ := fold_hi (i := i) (b.zipIdx (a.length + 1)) (h0 ++ [a.length]) []
          rw [h] at e
          have e : hi ++ [a.length] = h0 ++ [a.length] ++ r := e
          rcases List.eq_nil_or_concat r with q | ⟨r', y, q⟩
          · subst q
            simpa using e
          · exfalso
            rw [q, List.concat_eq_append, ← List.append_assoc] at e
            have e3 := (List.append_inj' e rfl).2
            have e4 : a.length = y := by simpa using e3
            obtain ⟨p, hp, q2⟩ := hr y (by rw [q]; simp)
            exact hpost p hp (by omega)
        subst hh
        refine ⟨by simp, ?_⟩
        rw [chg_at, leftF_split, hst, step_lo (i := i) (p := (i, a.length)) rfl]
        exact fold_up _ h
      · exfalso
        rw [step_pop e2 hl] at h
        exact key _ hm.1 _ h
    · exfalso
      rw [step_no e1 e2] at h
      exact key _ hm.1 _ h
theorem chg_back {w : List Int} {k : Nat} {x y : Int} (h : w[k]? = some x) : chg (chg w k y) k x = w := by
  have hk := (List.getElem?_eq_some_iff.mp h).1
  obtain ⟨a, z, b, rfl, rfl⟩ := split_at hk
  have : z = x := by simpa using h
  subst this
  rw [chg_at, chg_at]
theorem up_down {i : Int} {w w' : List Int} (h : wDown i w = some w') : wUp i w' = some w := by
  unfold wDown at h
  rcases hst : leftF i w with ⟨hi, lo⟩
  rw [hst] at h
  cases lo with
  | nil => cases h
  | cons k lo =>
    simp only [Option.some.injEq] at h
    subst h
    obtain ⟨hk, hx, e⟩ := left_down hst
    unfold wUp
    rw [e]
    simp only [List.getLast?_append, List.getLast?_singleton, Option.some_or]
    rw [chg_back hx]
theorem down_up {i : Int} {w w' : List Int} (h : wUp i w = some w') : wDown i w' = some w := by
  unfold wUp at h
  rcases hst : leftF i w with ⟨hi, lo⟩
  rw [hst] at h
  rcases List.eq_nil_or_concat hi with q | ⟨hi', k, q⟩
  · subst q
    cases h
  · subst q
    simp only [List.concat_eq_append, List.getLast?_append, List.getLast?_singleton, Option.some_or, Option.some.injEq] at h
    subst h
    rw [List.concat_eq_append] at hst
    obtain ⟨hk, hx, e⟩ := left_up hst
    unfold wDown
    rw [e]
    simp only [Option.some.injEq]
    exact chg_back hx
/-! ### plain: highest words by their prefixes -/
theorem leftF_snoc (i : Int) (w : List Int) (x : Int) : leftF i (w ++ [x]) = leftS i (leftF i w) (x, w.length) := by
  have := leftF_split i w [] x
  simpa using this
theorem snoc_ind {P : List Int → Prop} (h0 : P []) (hs : ∀ w x, P w → P (w ++ [x])) (w : List Int) : P w := by
  have : ∀ n, ∀ w : List Int, w.length = n → P w := by
    intro n
    induction n with
    | zero =>
      intro w hw
      rw [List.length_eq_zero_iff.mp hw]
      exact h0
    | succ n ih =>
      intro w hw
      rcases List.eq_nil_or_concat w with q | ⟨v, x, q⟩
      · rw [q]
        exact h0
      · rw [q, List.concat_eq_append]
        refine hs v x (ih v ?_)
        rw [q] at hw
        simpa using hw
  exact this _ w rfl
theorem left_count (i : Int) (w : List Int) : ((leftF i w).2.length : Int) + w.count (i + 1) = (leftF i w).1.length + w.count i := by
  refine snoc_ind (P := fun w => ((leftF i w).2.length : Int) + w.count (i + 1) = (leftF i w).1.length + w.count i) rfl (fun w x ih => ?_) w
  rw [leftF_snoc, List.count_append, List.count_append]
  rcases hst : leftF i w with ⟨h, l⟩
  rw [hst] at ih
  simp only at ih
  by_cases e1 : x = i
  · subst e1
    rw [step_lo (i := x) (p := (x, w.length)) rfl]
    have : ¬ x + 1 = x := by omega
    have : ¬ x = x + 1 := by omega
    simp [List.count_cons, *]
    omega
  · by_cases e2 : x = i + 1
    · subst e2
      by_cases hl : l = []
      · subst hl
        rw [step_hi (i := i) (p := (i + 1, w.length)) rfl]
        have : ¬ i + 1 = i := by omega
        simp [List.count_cons, *] at ih ⊢
        omega
      · rw [step_pop (i := i) (p := (i + 1, w.length)) rfl hl]
        have : ¬ i + 1 = i := by omega
        have hp := List.length_pos_iff.mpr hl
        simp [List.count_cons, *] at ih ⊢
        omega
    · rw [step_no (p := (x, w.length)) e1 e2]
      simp [List.count_cons, e1, e2]
      exact ih
def okP (i : Int) (w : List Int) (s : Nat) : Bool := !decide (((w.take s).count i : Int) < ((w.take s).count (i + 1) : Int))
theorem left_high (i : Int) (w : List Int) : (leftF i w).1 = [] ↔ ∀ s, s ≤ w.length → okP i w s = true := by
  refine snoc_ind (P := fun w => (leftF i w).1 = [] ↔ ∀ s, s ≤ w.length → okP i w s = true) ?_ (fun w x ih => ?_) w
  · refine ⟨fun _ s _ => by simp [okP], fun _ => rfl⟩
  · have hpre : ∀ s, s ≤ w.length → okP i (w ++ [x]) s = okP i w s := fun s hs => by
      unfold okP
      rw [List.take_append_of_le_length hs]
    have hall : (∀ s, s ≤ (w ++ [x]).length → okP i (w ++ [x]) s = true) ↔ (∀ s, s ≤ w.length → okP i w s = true) ∧ okP i (w ++ [x]) (w.length + 1) = true := by
      refine ⟨fun h => ⟨fun s hs => by rw [← hpre s hs]; exact h s (by simp; omega), h _ (by simp)⟩, fun ⟨h1, h2⟩ s hs => ?_⟩
      by_cases e : s ≤ w.length
      · rw [hpre s e]
        exact h1 s e
      · have : s = w.length + 1 := by
          simp at hs
          omega
        rw [this]
        exact h2
    have hc := left_count i (w ++ [x])
    have hc0 := left_count i w
    have hlast : okP i (w ++ [x]) (w.length + 1) = !decide (((w ++ [x]).count i : Int) < ((w ++ [x]).count (i + 1) : Int)) := by
      unfold okP
      rw [List.take_of_length_le (by simp)]
    rw [hall, ← ih, hlast]
    obtain ⟨r, e, _⟩ := fold_hi (i := i) [(x, w.length)] (leftF i w).1 (leftF i w).2
    have e : (leftF i (w ++ [x])).1 = (leftF i w).1 ++ r := by
      rw [leftF_snoc]
      exact e
    refine ⟨fun h => ?_, fun ⟨h1, h2⟩ => ?_⟩
    · rw [h] at e
      have h0 := (List.append_eq_nil_iff.mp e.symm).1
      refine ⟨h0, ?_⟩
      rw [h] at hc
      simp only [List.length_nil] at hc
      have hn : ¬ ((w ++ [x]).count i : Int) < ((w ++ [x]).count (i + 1) : Int) := by omega
      rw [decide_eq_false hn]
      rfl
    · -- nothing is put above
      rcases hst : leftF i w with ⟨hh, l⟩
      rw [hst] at h1 hc0
      simp only at h1 hc0
      subst h1
      rw [leftF_snoc, hst]
      by_cases e1 : x = i
      · rw [step_lo (p := (x, w.length)) e1]
      · by_cases e2 : x = i + 1
        · by_cases hl : l = []
          · exfalso
            subst hl e2
            have : ¬ i + 1 = i := by omega
            have h2 : ¬ ((w ++ [i + 1]).count i : Int) < ((w ++ [i + 1]).count (i + 1) : Int) := by simpa using h2
            rw [List.count_append, List.count_append] at h2
            simp [List.count_cons, *] at h2 hc0
            omega
          · rw [step_pop (p := (x, w.length)) e2 hl]
        · rw [step_no (p := (x, w.length)) e1 e2]
def hvF (n : Nat) (w : List Int) : Bool := (List.range (w.length + 1)).all fun s => (List.range n).all fun (i : Nat) => okP (i : Int) w s
theorem high_hv (n : Nat) (w : List Int) : highF n w = hvF n w := by
  rw [Bool.eq_iff_iff]
  unfold highF hvF
  simp only [List.all_eq_true, List.mem_range]
  have key : ∀ i : Nat, ((wUp (i : Int) w).isNone = true) ↔ ∀ s, s ≤ w.length → okP (i : Int) w s = true := fun i => by
    rw [← left_high]
    unfold wUp
    rcases List.eq_nil_or_concat (leftF (i : Int) w).1 with q | ⟨v, k, q⟩
    · rw [q]
      simp
    · rw [q]
      simp
  refine ⟨fun h s hs i hi => (key i).mp (h i hi) s (by omega), fun h i hi => (key i).mpr fun s hs => h s (by omega) i hi⟩
/-! ### what is asked of good words -/
def okWd (n : Int) (w : List Int) : Prop := w.length ≤ 40 ∧ ∀ x ∈ w, 0 ≤ x ∧ x < n + 1
theorem intOf_iL (w : List Int) : (iL w).map intOf = w := by
  rw [iL, List.map_map]
  conv => rhs; rw [← List.map_id w]
  rfl
theorem letters_ok {n : Int} {w : List Int} {d : PyData} (hd : rowOf d = some (iL w)) (h : okWd n w) : needLetters n d = .ok (.tuple (iL w)) := by
  unfold needLetters
  rw [hd]
  simp only
  rw [if_neg (by rw [iL_len]; have := h.1; omega)]
  have : (iL w).findIdx? (fun x => !isPt (n + 1) x) = none := by
    rw [List.findIdx?_eq_none_iff]
    intro x hx
    obtain ⟨v, hv, rfl⟩ := List.mem_map.mp hx
    have := h.2 v hv
    simp [isPt, this.1, this.2]
  rw [this]
theorem asked_ok {n i : Int} {w : List Int} {d : PyData} (hn : 1 ≤ n) (hn5 : n ≤ 5) (hd : rowOf d = some (iL w)) (h : okWd n w) (h0 : 0 ≤ i) (hi : i < n) : askedF (.int n) d (.int i) = .ok (w, i) := by
  have e1 : okN (.int n) = true := by simp [okN, hn, hn5]
  have e2 : isPt n (.int i) = true := by simp [isPt, h0, hi]
  have : needAsked (.int n) d (.int i) = .ok (.tuple (iL w)) := by
    unfold needAsked
    simp only [e1, if_true, letters_ok hd h, e2]
  unfold askedF
  rw [this, hd]
  show Except.ok (((iL w).map intOf), i) = _
  rw [intOf_iL]
theorem askedW_ok {n : Int} {w : List Int} {d : PyData} (hn : 1 ≤ n) (hn5 : n ≤ 5) (hd : rowOf d = some (iL w)) (h : okWd n w) : askedW (.int n) d = .ok (n.toNat, w) := by
  have e1 : okN (.int n) = true := by simp [okN, hn, hn5]
  unfold askedW
  simp only [e1, if_true, letters_ok hd h, hd]
  show Except.ok (n.toNat, ((iL w).map intOf)) = _
  rw [intOf_iL]
theorem chg_len {w : List Int} {k : Nat} {x : Int} (h : k < w.length) : (chg w k x).length = w.length := by
  obtain ⟨a, z, b, rfl, rfl⟩ := split_at h
  rw [chg_at]
  simp
theorem chg_mem {w : List Int} {k : Nat} {x y : Int} (h : y ∈ chg w k x) : y = x ∨ y ∈ w := by
  unfold chg at h
  rcases List.mem_append.mp h with q | q
  · rcases List.mem_append.mp q with q | q
    · exact .inr (List.mem_of_mem_take q)
    · exact .inl (by simpa using q)
  · exact .inr (List.mem_of_mem_drop q)
theorem down_ok {n i : Int} {w w' : List Int} (h : okWd n w) (h0 : 0 ≤ i) (hi : i < n) (e : wDown i w = some w') : okWd n w' := by
  unfold wDown at e
  rcases hst : leftF i w with ⟨hi', lo⟩
  rw [hst] at e
  cases lo with
  | nil => cases e
  | cons k lo =>
    simp only [Option.some.injEq] at e
    subst e
    obtain ⟨hk, _, _⟩ := left_down hst
    refine ⟨by rw [chg_len hk]; exact h.1, fun x hx => ?_⟩
    rcases chg_mem hx with q | q
    · omega
    · exact h.2 x q
theorem up_ok {n i : Int} {w w' : List Int} (h : okWd n w) (h0 : 0 ≤ i) (hi : i < n) (e : wUp i w = some w') : okWd n w' := by
  unfold wUp at e
  cases hk : (leftF i w).1.getLast? with
  | none =>
    rw [hk] at e
    cases e
  | some k =>
    rw [hk] at e
    simp only [Option.some.injEq] at e
    subst e
    have hm := (leftF_mem i w).1 k (List.mem_of_getLast? hk)
    refine ⟨by rw [chg_len hm]; exact h.1, fun x hx => ?_⟩
    rcases chg_mem hx with q | q
    · omega
    · exact h.2 x q
end P75
set_option Elab.async false
set_option linter.all false
set_option maxRecDepth 100000
set_option maxHeartbeats 4000000
namespace P75
open PySem L2 Evl DL RZ
local macro_rules | `(tactic| walk_at "wx") => `(tactic| first | (refine wpe_var rfl rfl ?_) | (refine wpe_int ?_) | (refine wpe_str ?_) | (refine wpe_non ?_) | (refine wpe_bl ?_) | (refine wpe_ty ?_) | (refine wpe_ref ?_) | with_reducible refine wpe_add ?_ | with_reducible refine wpe_sub ?_ | with_reducible refine wpe_mul ?_ | with_reducible refine wpe_mod ?_ | with_reducible refine wpe_fdiv ?_ | with_reducible refine wpe_pow ?_ | with_reducible refine wpe_lt ?_ | with_reducible refine wpe_le ?_ | with_reducible refine wpe_gt ?_ | with_reducible refine wpe_ge ?_ | with_reducible refine wpe_eqS ?_ | with_reducible refine wpe_neS ?_ | with_reducible refine wpe_neg ?_ | with_reducible refine wpe_chainLeLt ?_ | with_reducible refine wpe_chainLeLe ?_ | with_reducible refine wpe_eqD ?_ | with_reducible refine wpe_neD ?_ | with_reducible refine wpe_isNn ?_ | with_reducible refine wpe_notNn ?_ | with_reducible refine wpe_inI ?_ | with_reducible refine wpe_if ?_ | with_reducible refine wpe_andV ?_ | with_reducible refine wpe_orV ?_ | with_reducible refine wpe_notV ?_ | with_reducible refine wpe_ix ?_ | with_reducible refine wpe_slL ?_ | with_reducible refine wpe_slA ?_ | with_reducible refine wpe_cat ?_ | with_reducible refine wpe_catA ?_ | with_reducible refine wpe_rep ?_ | with_reducible refine wpe_isiR ?_ | (refine wpe_isiI (by simp) ?_) | with_reducible refine wpe_len ?_ | with_reducible refine wpe_listOf ?_ | with_reducible refine wpe_tupleOf ?_ | with_reducible refine wpe_all ?_ | with_reducible refine wpe_any ?_ | with_reducible refine wpe_sum ?_ | with_reducible refine wpe_max ?_ | with_reducible refine wpe_sortedI ?_ | with_reducible refine wpe_intOf ?_ | with_reducible refine wpe_isi ?_ | with_reducible refine wpe_count ?_ | with_reducible refine wpe_pop ?_ | with_reducible refine wpe_tup ?_ | with_reducible refine wpe_lst ?_ | (refine wpa_nil ?_) | with_reducible refine wpa_cons ?_ | (refine wpo_none ?_) | with_reducible refine wpo_some ?_ | with_reducible refine wpt_test ?_ | with_reducible refine wpt_B ?_ | with_reducible refine wpt_and ?_ | with_reducible refine wpt_or ?_ | with_reducible refine wpt_not ?_ | (refine wpt_yes ?_) | with_reducible refine wps_seq ?_ | with_reducible refine wps_set ?_ | with_reducible refine wps_ret ?_ | with_reducible refine wps_if ?_ | with_reducible refine wps_par ?_ | with_reducible refine wps_app ?_ | (refine wps_next ?_) | (refine wps_brk ?_) | (refine wps_cont ?_) | (refine wps_retN ?_) | with_reducible refine wps_drop ?_ | with_reducible refine wps_asg ?_ | with_reducible refine wpe_fld (by assumption) (by simp) ?_)
local macro_rules | `(tactic| walk_at "w") => `(tactic| (walk_at "wx"; repeat (walk_at "wx")))
local macro_rules | `(tactic| walk_at "gx") => `(tactic| first | (walk_at "wx") | with_reducible refine wpe_cA1 ?_ | with_reducible refine wpe_cA2 ?_ | with_reducible refine wpe_cA3 ?_ | with_reducible refine wpe_cB1 ?_ | with_reducible refine wpe_cB2 ?_ | with_reducible refine wpe_cB3 ?_ | with_reducible refine wpe_cB4 ?_ | with_reducible refine wpe_cB5 ?_ | (refine wpe_cN0 rfl ?_) | (refine wpe_cN1 rfl ?_) | (refine wpe_cN2 rfl ?_) | (refine wpe_cN3 rfl ?_) | (refine ⟨_, rfl, ?_⟩) | (refine ⟨_, _, rfl, rfl, ?_⟩) | (refine ⟨_, _, _, rfl, rfl, rfl, ?_⟩) | (refine ⟨_, _, _, _, rfl, rfl, rfl, rfl, rfl, ?_⟩) | (refine ⟨_, _, _, _, rfl, rfl, rfl, rfl, ?_⟩) | (refine ⟨_, _, _, _, _, rfl, rfl, rfl, rfl, rfl, ?_⟩) | (refine ⟨_, _, rfl, ?_⟩))
local macro_rules | `(tactic| walk_at "g") => `(tactic| (walk_at "gx"; repeat (walk_at "gx")))
local macro_rules | `(tactic| walk_at "ln") => `(tactic| first | omega | (simp [LL, rowD, iL, iN]; done) | (simp [LL, rowD, iL, iN]; omega) | (simp [LL, rowD, iL, iN] at *; omega))
/-! ### the words of the law -/
structure GW (n : Int) (w : List Int) (g : PyData) : Prop where
  n1 : 1 ≤ n
  n5 : n ≤ 5
  ok : okWd n w
  row : rowOf g = some (iL w)
theorem GW.tyG {n : Int} {w : List Int} {g : PyData} (G : GW n w g) : ty g ∧ ∀ row, rowOf g = some row → ∀ x ∈ row, ty x := by
  have := G.row
  refine ⟨by cases g <;> first | rfl | (cases this), fun row hr x hx => ?_⟩
  rw [this] at hr
  cases hr
  obtain ⟨v, _, rfl⟩ := List.mem_map.mp hx
  rfl
theorem GW.ask {n i : Int} {w : List Int} {g : PyData} (G : GW n w g) (h0 : 0 ≤ i) (hi : i < n) {f : List Int → Int → PyData} {Φ : PyData → Prop} {Ψ : Er → Prop} (h : Φ (f w i)) : W_ask f [.int n, g, .int i] Φ Ψ := by
  refine ⟨.int n, g, .int i, rfl, rfl, G.tyG.1, rfl, G.tyG.2, ?_⟩
  unfold askO
  rw [asked_ok G.n1 G.n5 G.row G.ok h0 hi]
  exact h
theorem GW.wrd {n : Int} {w : List Int} {g : PyData} (G : GW n w g) {f : Nat → List Int → PyData} {Φ : PyData → Prop} {Ψ : Er → Prop} (h : Φ (f n.toNat w)) : W_wrd f [.int n, g] Φ Ψ := by
  refine ⟨.int n, g, rfl, rfl, G.tyG.1, G.tyG.2, ?_⟩
  unfold wrdO
  rw [askedW_ok G.n1 G.n5 G.row G.ok]
  exact h
theorem pl_oT {o : Option (List Int)} : pl 20 (oT o) = true := by
  cases o with
  | none => rfl
  | some w => exact pl_iLt
theorem wDown_nil {i : Int} {w : List Int} (h : (leftF i w).2 = []) : wDown i w = none := by
  unfold wDown
  rw [h]
theorem wDown_cons {i : Int} {w : List Int} {k : Nat} {l : List Nat} (h : (leftF i w).2 = k :: l) : wDown i w = some (chg w k (i + 1)) := by
  unfold wDown
  rw [h]
theorem wUp_nil {i : Int} {w : List Int} (h : (leftF i w).1 = []) : wUp i w = none := by
  unfold wUp
  rw [h]
  rfl
theorem wUp_last {i : Int} {w : List Int} {k : Nat} (h : (leftF i w).1.getLast? = some k) : wUp i w = some (chg w k i) := by
  unfold wUp
  rw [h]
theorem left_lens (i : Int) (w : List Int) : (leftF i w).1.length + (leftF i w).2.length ≤ w.length := by
  have := leftF_len (i := i) (w := w.zipIdx) (st := ([], []))
  show (w.zipIdx.foldl (leftS i) ([], [])).1.length + (w.zipIdx.foldl (leftS i) ([], [])).2.length ≤ w.length
  simpa using this
theorem oT_isN {o : Option (List Int)} : (W.d (oT o)).isN = some o.isNone := by cases o <;> rfl
def W_word_right : WfN := fun ds c Φ => ∃ (n : Int) (w : List Int), ds = [.int n, .list (iL w)] ∧ 1 ≤ n ∧ n ≤ 5 ∧ okWd n w ∧ c + 300 < 1000000000 ∧ ∀ c', c ≤ c' → c' ≤ c + 300 → Φ (.bool true) c'
theorem w_word_right {C : Cn} {A : Ads} {ds : List PyData} {c : Nat} {Φ : PyData → Nat → Prop} (h : W_word_right ds c Φ) :
    wps C (t__law_word_right C.K A (spN C.K C.cl C.pk W_listed) (spN C.K C.cl C.pk W_left) (spP C.K C.cl W_lower_word) (spP C.K C.cl W_raise_word) (spP C.K C.cl W_with) (spP C.K C.cl W_word_depths) (spP C.K C.cl W_is_ints) (spP C.K C.cl W_word_weight) (spP C.K C.cl W_is_truth) (spP C.K C.cl W_is_high_word)) (start0 (.pen :: ds.map .d) 14 c) (DN Φ) := by
  obtain ⟨n, w, rfl, hn, hn5, hok, hc, h⟩ := h
  have hl40 := hok.1
  unfold t__law_word_right
  -- either way what is given is the word
  suffices H : ∀ g, (g = .list (iL w) ∨ g = .tuple (iL w)) → ∀ w4 w5 w6 w7 w8 w9 w10 w11 w12 w13, wps C _ ⟨[.pen, .d (.int n), .d (.list (iL w)), .d g, w4, w5, w6, w7, w8, w9, w10, w11, w12, w13], [], c + 1⟩ (DN Φ) by
    refine wps_seq (wps_set (wpe_cN1 rfl (wpe_var rfl rfl ⟨_, rfl, iL w, .inl rfl, by show c < 1000000000; omega, ?_, ?_⟩)))
    · exact H _ (.inl rfl) .no .no .no .no .no .no .no .no .no .no
    · exact H _ (.inr rfl) .no .no .no .no .no .no .no .no .no .no
  intro g hg w4 w5 w6 w7 w8 w9 w10 w11 w12 w13
  have G : GW n w g := ⟨hn, hn5, hok, by rcases hg with rfl | rfl <;> rfl⟩
  refine wps_seq ?_
  refine wps_for (items := rng 0 n.toNat) (fun j s => ∃ c' w4 w5 w6 w7 w8 w9, s = ⟨[.pen, .d (.int n), .d (.list (iL w)), .d g, w4, w5, w6, w7, w8, w9, w10, w11, w12, w13], [], c'⟩ ∧ c + 1 ≤ c' ∧ c' ≤ c + 1 + j * 40) ?_ ?_ ?_
  · refine wpi_rng1 ?_
    walk_at "w"
    exact ⟨n, rfl, by omega, by omega, rfl, _, _, _, _, _, _, _, rfl, by omega, by omega⟩
  · rintro j d s1 hd ⟨c0, w4, w5, w6, w7, w8, w9, rfl, hc1, hc2⟩
    obtain ⟨hj, rfl⟩ := rng_get hd
    rw [Int.zero_add]
    have hj0 : (0 : Int) ≤ (j : Int) := Int.natCast_nonneg j
    have hjn : (j : Int) < n := by omega
    have hj5 : j * 40 ≤ 4 * 40 := Nat.mul_le_mul_right _ (by omega)
    rcases hst : leftF (j : Int) w with ⟨hi, lo⟩
    have hlen := left_lens (j : Int) w
    rw [hst] at hlen
    have hlen : hi.length + lo.length ≤ w.length := hlen
    have e1 : (leftF (j : Int) w).1 = hi := by rw [hst]
    have e2 : (leftF (j : Int) w).2 = lo := by rw [hst]
    refine wpg_name ?_
    -- high, low
    refine wps_seq (wps_asg (wpe_cN2 rfl ?_))
    walk_at "w"
    refine ⟨_, _, rfl, rfl, w, j, rfl, by omega, by show c0 + w.length < 1000000000; omega, fun c' hc3 hc4 => ?_⟩
    have hc3 : c0 ≤ c' := hc3
    have hc4 : c' ≤ c0 + w.length := hc4
    rw [e1, e2]
    refine wpg_tup2 ?_
    -- down, up
    refine wps_seq (wps_par (wpa_cons (wpe_cB3 ?_)))
    walk_at "w"
    refine ⟨_, _, _, rfl, rfl, rfl, G.ask hj0 hjn ?_⟩
    refine wpa_cons (wpe_cB3 ?_)
    walk_at "w"
    refine ⟨_, _, _, rfl, rfl, rfl, G.ask hj0 hjn ?_⟩
    walk_at "w"
    refine ⟨_, _, rfl, ?_⟩
    -- down is right
    refine wps_seq (wps_if (wpt_test (wpe_neD ?_)))
    have eqD : ∀ {s : S} {Ψ : W → S → Prop}, s.sl[2]? = some (.d (.list (iL w))) → s.sl[6]? = some (.d (.list (iN lo))) → s.sl[4]? = some (.d (.int (j : Int))) → Ψ (.d (oT (wDown (j : Int) w))) s →
        wpe C (tIf (tTest (tOp (rEqD C.K) (tVar 6) (tLst tNil))) (tC .non) (tCall (spP C.K C.cl W_with) [] E0 (tCons (tVar 2) (tCons (tOp (rIx C.K) (tVar 6) (tC (.int 0))) (tCons (tOp rAddI (tVar 4) (tC (.int 1))) tNil))))) s Ψ := fun {s} {Ψ} h2 h6 h4 k => by
      refine wpe_if (wpt_test (wpe_eqD (wpe_var h6 rfl (wpe_lst (wpa_nil ⟨[], rfl, by simp, _, _, rfl, rfl, pl_list (fun d hd => ?_), rfl, _, rfl, fun e => ?_, fun e => ?_⟩)))))
      · obtain ⟨x, _, rfl⟩ := List.mem_map.mp hd
        exact pl_int
      · rw [eqv_nil, iN, List.isEmpty_map] at e
        have e : lo = [] := List.isEmpty_iff.mp e
        rw [wDown_nil (e2.trans e)] at k
        exact wpe_non k
      · rw [eqv_nil, iN, List.isEmpty_map] at e
        cases hlo : lo with
        | nil =>
          rw [hlo] at e
          cases e
        | cons q l =>
          rw [wDown_cons (e2.trans hlo)] at k
          refine wpe_cB3 (wpe_var h2 rfl (wpe_ix (wpe_var h6 rfl (wpe_int ⟨(iN lo).map .d, 0, .d (.int (q : Int)), rfl, rfl, iN_get (by rw [hlo]; rfl), ?_⟩))))
          refine wpe_add (wpe_var h4 rfl (wpe_int ⟨_, _, rfl, rfl, _, _, _, rfl, rfl, rfl, w, q, _, rfl, by omega, k⟩))
    have eqU : ∀ {s : S} {Ψ : W → S → Prop}, s.sl[2]? = some (.d (.list (iL w))) → s.sl[5]? = some (.d (.list (iN hi))) → s.sl[4]? = some (.d (.int (j : Int))) → Ψ (.d (oT (wUp (j : Int) w))) s →
        wpe C (tIf (tTest (tOp (rEqD C.K) (tVar 5) (tLst tNil))) (tC .non) (tCall (spP C.K C.cl W_with) [] E0 (tCons (tVar 2) (tCons (tOp (rIx C.K) (tVar 5) (tUn rNegI (tC (.int 1)))) (tCons (tVar 4) tNil))))) s Ψ := fun {s} {Ψ} h2 h6 h4 k => by
      refine wpe_if (wpt_test (wpe_eqD (wpe_var h6 rfl (wpe_lst (wpa_nil ⟨[], rfl, by simp, _, _, rfl, rfl, pl_list (fun d hd => ?_), rfl, _, rfl, fun e => ?_, fun e => ?_⟩)))))
      · obtain ⟨x, _, rfl⟩ := List.mem_map.mp hd
        exact pl_int
      · rw [eqv_nil, iN, List.isEmpty_map] at e
        have e : hi = [] := List.isEmpty_iff.mp e
        rw [wUp_nil (e1.trans e)] at k
        exact wpe_non k
      · rw [eqv_nil, iN, List.isEmpty_map] at e
        cases hlo : hi.getLast? with
        | none =>
          rw [List.getLast?_eq_none_iff] at hlo
          rw [hlo] at e
          cases e
        | some q =>
          rw [wUp_last (by rw [e1]; exact hlo)] at k
          refine wpe_cB3 (wpe_var h2 rfl (wpe_ix (wpe_var h6 rfl (wpe_neg (wpe_int ⟨1, rfl, (iN hi).map .d, -1, .d (.int (q : Int)), rfl, rfl, atI_d (atI_last (by rw [iN, List.getLast?_map, hlo]; rfl)), ?_⟩)))))
          refine wpe_var h4 rfl ⟨_, _, _, rfl, rfl, rfl, w, q, _, rfl, by omega, k⟩
    refine wpe_var rfl rfl (eqD rfl rfl rfl ?_)
    refine ⟨_, _, rfl, rfl, pl_oT, pl_oT, _, rfl, fun e => ?_, fun _ => ?_⟩
    · rw [eqv_self pl_oT] at e
      cases e
    refine wps_next ?_
    refine wps_seq (wps_if (wpt_test (wpe_neD ?_)))
    refine wpe_var rfl rfl (eqU rfl rfl rfl ?_)
    refine ⟨_, _, rfl, rfl, pl_oT, pl_oT, _, rfl, fun e => ?_, fun _ => ?_⟩
    · rw [eqv_self pl_oT] at e
      cases e
    walk_at "w"
    -- told
    refine wpe_cB3 ?_
    walk_at "w"
    refine ⟨_, _, _, rfl, rfl, rfl, G.ask hj0 hjn ?_⟩
    rw [e1, e2]
    walk_at "w"
    refine wpe_cB2 ?_
    walk_at "w"
    have hpt : [PyData.int (lo.length : Int), .int (hi.length : Int)].all (isPt 41) = true := by
      simp [isPt]
      omega
    refine ⟨_, _, rfl, rfl, [.int (lo.length : Int), .int (hi.length : Int)], 41, rfl, by simp, by simp; exact ⟨rfl, rfl⟩, ?_⟩
    rw [hpt]
    refine ⟨_, rfl, fun _ => ?_, fun e => nomatch e⟩
    walk_at "w"
    refine ⟨_, _, rfl, rfl, ?_⟩
    walk_at "w"
    refine ⟨_, _, rfl, rfl, ?_⟩
    walk_at "w"
    rw [List.length_map, List.length_map, iN, iN, List.length_map, List.length_map]
    refine ⟨[.int (lo.length : Int), .int (hi.length : Int)], rfl, by simp, _, _, rfl, rfl, by rfl, by rfl, _, rfl, fun e => ?_, fun _ => ?_⟩
    · rw [eqv_self (n := 20) (by rfl)] at e
      cases e
    -- raised again
    refine wps_next ?_
    have sfin : ∀ w5 w6 w7 w8 w9, ∃ c' w4 w5' w6' w7' w8' w9', (⟨[.pen, .d (.int n), .d (.list (iL w)), .d g, .d (.int (j : Int)), w5, w6, w7, w8, w9, w10, w11, w12, w13], [], c'⟩ : S) = ⟨[.pen, .d (.int n), .d (.list (iL w)), .d g, w4, w5', w6', w7', w8', w9', w10, w11, w12, w13], [], c'⟩ ∧ c + 1 ≤ c' ∧ c' ≤ c + 1 + (j + 1) * 40 := fun w5 w6 w7 w8 w9 => ⟨c0, _, _, _, _, _, _, rfl, hc1, by omega⟩
    refine wps_seq (wps_guard0 (wpt_and ?_) ?_)
    · walk_at "w"
      refine ⟨_, oT_isN, _, rfl, fun en => ?_, fun _ => ⟨rfl, rfl⟩⟩
      cases hw : wDown (j : Int) w with
      | none =>
        rw [hw] at en
        cases en
      | some w' =>
        have G' : GW n w' (.tuple (iL w')) := ⟨hn, hn5, down_ok hok hj0 hjn hw, rfl⟩
        walk_at "w"
        refine wpe_cB3 ?_
        walk_at "w"
        refine ⟨_, _, _, rfl, rfl, rfl, G'.ask hj0 hjn ?_⟩
        rw [up_down hw]
        walk_at "w"
        refine ⟨_, iL w, rfl, rfl, _, _, rfl, rfl, pl_iLt, pl_iLt, _, rfl, ?_, rfl⟩
        rw [show PyData.eqv (oT (some w)) (.tuple (iL w)) = true from eqv_self (n := 20) pl_iLt]
        rfl
    refine wps_guard0 (wpt_and ?_) ?_
    · walk_at "w"
      refine ⟨_, oT_isN, _, rfl, fun en => ?_, fun _ => ⟨rfl, rfl⟩⟩
      cases hw : wUp (j : Int) w with
      | none =>
        rw [hw] at en
        cases en
      | some w' =>
        have G' : GW n w' (.tuple (iL w')) := ⟨hn, hn5, up_ok hok hj0 hjn hw, rfl⟩
        walk_at "w"
        refine wpe_cB3 ?_
        walk_at "w"
        refine ⟨_, _, _, rfl, rfl, rfl, G'.ask hj0 hjn ?_⟩
        rw [down_up hw]
        walk_at "w"
        refine ⟨_, iL w, rfl, rfl, _, _, rfl, rfl, pl_iLt, pl_iLt, _, rfl, ?_, rfl⟩
        rw [show PyData.eqv (oT (some w)) (.tuple (iL w)) = true from eqv_self (n := 20) pl_iLt]
        rfl
    exact ⟨c', _, _, _, _, _, _, rfl, by omega, by omega⟩
  · rintro s1 ⟨c0, w4, w5, w6, w7, w8, w9, rfl, hc1, hc2⟩
    rw [rng_len] at hc2
    have hn40 : n.toNat * 40 ≤ 5 * 40 := Nat.mul_le_mul_right _ (by omega)
    obtain ⟨m, rfl⟩ : ∃ m : Nat, n = (m : Int) := ⟨n.toNat, by omega⟩
    -- counts
    refine wps_seq (wps_set ?_)
    refine wpe_lcP (List.range (m + 1)) (fun i => .int (0 + (i : Int))) (fun _ => true) (fun i => .int (w.count (i : Int) : Int)) (tgw_name (by simp)) ?_
    refine wpi_rng1 ?_
    walk_at "g"
    refine ⟨by omega, by omega, ?_, by simp; omega, ?_, ?_⟩
    · rw [show ((m : Int) + 1).toNat = m + 1 by omega]
      rfl
    · rintro i hi ⟨sl, ms, c⟩ e1 e2 e3
      have e1 : sl = _ := e1
      subst e1
      refine wpg_name ?_
      walk_at "w"
      refine ⟨rfl, e2, rfl, fun _ => ?_⟩
      walk_at "w"
      refine wpe_lcP w .int (fun x => decide (x = (i : Int))) .int (tgw_name (by simp)) ?_
      refine wpi_list ?_
      walk_at "w"
      refine ⟨_, rfl, rfl, by omega, ?_, ?_⟩
      · rintro x hx ⟨sl2, ms2, c2⟩ e4 e5 e6
        have e4 : sl2 = _ := e4
        subst e4
        refine wpg_name ?_
        walk_at "w"
        refine ⟨_, _, _, _, rfl, rfl, rfl, rfl, rfl, _, rfl, ?_, e5, rfl, fun _ => ?_⟩
        · simp
        · walk_at "w"
          exact ⟨rfl, e5, rfl⟩
      · walk_at "w"
        refine ⟨_, _, rfl, rfl, ?_, e2, rfl⟩
        simp only [List.length_map, count_filter]
    rw [filter_tt]
    -- the weight
    refine wps_seq (wps_set (wpe_cB2 ?_))
    walk_at "w"
    refine ⟨_, _, rfl, rfl, G.wrd ?_⟩
    refine wps_seq (wps_guard0 (wpt_or ?_) ?_)
    · walk_at "w"
      refine ⟨_, rfl, rfl, _, rfl, fun _ => ?_, fun e => (by simp [kT, tyS] at e)⟩
      walk_at "w"
      refine ⟨_, iL (weightF m w), rfl, rfl, ?_⟩
      refine wpe_lcP (List.range m) (fun i => .int (0 + (i : Int))) (fun _ => true) (fun i => .int ((w.count (i : Int) : Int) - (w.count ((i : Int) + 1) : Int))) (tgw_name (by simp)) ?_
      refine wpi_rng1 ?_
      walk_at "g"
      refine ⟨by omega, by omega, rfl, by simp; omega, ?_, ?_⟩
      · rintro i hi ⟨sl, ms, c⟩ e1 e2 e3
        have e1 : sl = _ := e1
        subst e1
        have hi := List.mem_range.mp hi
        refine wpg_name ?_
        walk_at "w"
        refine ⟨rfl, e2, rfl, fun _ => ?_⟩
        rw [Int.zero_add]
        have cnt : ∀ k : Nat, k < m + 1 → atI (((List.range (m + 1)).map fun (i : Nat) => PyData.int (w.count (i : Int) : Int)).map W.d) (k : Int) = some (.d (.int (w.count (k : Int) : Int))) := fun k hk => atI_d (atI_nat (Int.natCast_nonneg k) (by rw [Int.toNat_natCast, List.getElem?_map, List.getElem?_range hk]; rfl))
        walk_at "w"
        refine ⟨_, _, _, rfl, rfl, cnt i (by omega), ?_⟩
        walk_at "w"
        refine ⟨_, _, rfl, rfl, _, _, _, rfl, rfl, cnt (i + 1) (by omega), ?_⟩
        walk_at "g"
        exact ⟨by rw [Int.natCast_add]; rfl, e2, rfl⟩
      · rw [filter_tt]
        have ew : ((List.range m).map fun (i : Nat) => PyData.int ((w.count (i : Int) : Int) - (w.count ((i : Int) + 1) : Int))) = iL (weightF m w) := by
          rw [weightF, iL, List.map_map]
          rfl
        rw [ew]
        refine ⟨_, _, rfl, rfl, pl_iLl, pl_iLl, _, rfl, ?_, rfl⟩
        rw [eqv_self (n := 20) pl_iLl]
        rfl
    -- highest
    refine wps_seq (wps_set (wpe_bl ?_))
    let hv : Nat → Nat → Bool := fun s t => ((List.range s).all fun s => (List.range m).all fun (i : Nat) => okP (i : Int) w s) && (List.range t).all fun (i : Nat) => okP (i : Int) w s
    refine wps_seq ?_
    refine wps_for (items := rng 0 (w.length + 1)) (fun j s => ∃ w4 w5 w6 w7 w8 w9 w10 w12 w13, s = ⟨[.pen, .d (.int (m : Int)), .d (.list (iL w)), .d g, w4, w5, w6, w7, w8, w9, w10, .d (.bool (hv j 0)), w12, w13], [], c0⟩) ?_ ?_ ?_
    · refine wpi_rng1 ?_
      walk_at "g"
      rw [List.length_map, iL_len]
      refine ⟨by omega, by omega, ?_, _, _, _, _, _, _, _, _, _, rfl⟩
      rw [show ((w.length : Int) + 1).toNat = w.length + 1 by omega]
    · rintro j d s1 hd ⟨w4, w5, w6, w7, w8, w9, w10, w12, w13, rfl⟩
      obtain ⟨hj, rfl⟩ := rng_get hd
      rw [Int.zero_add]
      refine wpg_name ?_
      refine wps_for (items := rng 0 m) (fun t s => ∃ w4 w5 w6 w7 w8 w9 w10 w13, s = ⟨[.pen, .d (.int (m : Int)), .d (.list (iL w)), .d g, w4, w5, w6, w7, w8, w9, w10, .d (.bool (hv j t)), .d (.int (j : Int)), w13], [], c0⟩) ?_ ?_ ?_
      · refine wpi_rng1 ?_
        walk_at "w"
        exact ⟨(m : Int), rfl, by omega, by omega, rfl, _, _, _, _, _, _, _, _, rfl⟩
      · rintro t d s1 hd ⟨w4, w5, w6, w7, w8, w9, w10, w13, rfl⟩
        obtain ⟨ht, rfl⟩ := rng_get hd
        rw [Int.zero_add]
        refine wpg_name ?_
        have hnx : hv j (t + 1) = (hv j t && okP (t : Int) w j) := by
          simp only [hv, List.range_succ, List.all_append, List.all_cons, List.all_nil, Bool.and_true, Bool.and_assoc]
        have cutw : cut (iL w) none (some (j : Int)) = (w.take j).map .int := by
          rw [cut_to, iL, ← List.map_take]
        refine wps_if (wpt_test (wpe_lt (wpe_count (wpe_slL (wpe_var rfl rfl (wpo_none (wpo_some (wpe_var rfl rfl ⟨_, rfl, _, rfl, w.take j, by rw [cutw], wpa_cons (wpe_var rfl rfl (wpa_nil ⟨_, rfl, ?_⟩))⟩))))))))
        refine wpe_count (wpe_slL (wpe_var rfl rfl (wpo_none (wpo_some (wpe_var rfl rfl ⟨_, rfl, _, rfl, w.take j, by rw [cutw], wpa_cons (wpe_add (wpe_var rfl rfl (wpe_int ⟨_, _, rfl, rfl, wpa_nil ⟨_, rfl, _, _, rfl, rfl, _, rfl, fun e => ?_, fun e => ?_⟩⟩)))⟩)))))
        · have ek : okP (t : Int) w j = false := by
            unfold okP
            rw [e]
            rfl
          exact wps_set (wpe_bl ⟨.d (.int (t : Int)), w5, w6, w7, w8, w9, w10, w13, by rw [hnx, ek, Bool.and_false]; rfl⟩)
        · have ek : okP (t : Int) w j = true := by
            unfold okP
            rw [e]
            rfl
          exact wps_next ⟨.d (.int (t : Int)), w5, w6, w7, w8, w9, w10, w13, by rw [hnx, ek, Bool.and_true]; rfl⟩
      · rintro s1 ⟨w4, w5, w6, w7, w8, w9, w10, w13, rfl⟩
        rw [rng_len]
        have : hv j m = hv (j + 1) 0 := by
          simp [hv, List.range_succ]
        rw [this]
        exact ⟨_, _, _, _, _, _, _, _, _, rfl⟩
    · rintro s1 ⟨w4, w5, w6, w7, w8, w9, w10, w12, w13, rfl⟩
      rw [rng_len]
      have ehv : hv (w.length + 1) 0 = highF m w := by
        rw [high_hv]
        simp [hv, hvF]
      rw [ehv]
      refine wps_ret (wpe_andV (wpe_cB2 (wpe_cB2 ?_)))
      walk_at "w"
      refine ⟨_, _, rfl, rfl, G.wrd ?_⟩
      walk_at "w"
      refine ⟨_, _, rfl, rfl, highF m w, highF m w, rfl, _, rfl, fun _ => ?_, fun e => ?_⟩
      · have hrow : ∃ ds, rowOf g = some ds ∧ ∀ s, seqW s (.d g) = some ((iL w).map W.d) := by
          rcases hg with rfl | rfl
          · exact ⟨_, rfl, fun _ => rfl⟩
          · exact ⟨_, rfl, fun _ => rfl⟩
        obtain ⟨_, _, hs⟩ := hrow
        walk_at "w"
        refine ⟨_, iL w, rfl, hs _, ?_⟩
        walk_at "w"
        refine ⟨_, _, rfl, rfl, pl_iLl, pl_iLl, _, rfl, ?_⟩
        rw [eqv_self (n := 20) pl_iLl]
        exact h c0 (by omega) (by omega)
      · simp at e
end P75
set_option Elab.async false
set_option linter.all false
set_option maxRecDepth 100000
set_option maxHeartbeats 4000000
namespace P75
open PySem L2 Evl DL RZ
local macro_rules | `(tactic| walk_at "wx") => `(tactic| first | (refine wpe_var rfl rfl ?_) | (refine wpe_int ?_) | (refine wpe_str ?_) | (refine wpe_non ?_) | (refine wpe_bl ?_) | (refine wpe_ty ?_) | (refine wpe_ref ?_) | with_reducible refine wpe_add ?_ | with_reducible refine wpe_sub ?_ | with_reducible refine wpe_mul ?_ | with_reducible refine wpe_mod ?_ | with_reducible refine wpe_fdiv ?_ | with_reducible refine wpe_pow ?_ | with_reducible refine wpe_lt ?_ | with_reducible refine wpe_le ?_ | with_reducible refine wpe_gt ?_ | with_reducible refine wpe_ge ?_ | with_reducible refine wpe_eqS ?_ | with_reducible refine wpe_neS ?_ | with_reducible refine wpe_neg ?_ | with_reducible refine wpe_chainLeLt ?_ | with_reducible refine wpe_chainLeLe ?_ | with_reducible refine wpe_eqD ?_ | with_reducible refine wpe_neD ?_ | with_reducible refine wpe_isNn ?_ | with_reducible refine wpe_notNn ?_ | with_reducible refine wpe_inI ?_ | with_reducible refine wpe_if ?_ | with_reducible refine wpe_andV ?_ | with_reducible refine wpe_orV ?_ | with_reducible refine wpe_notV ?_ | with_reducible refine wpe_ix ?_ | with_reducible refine wpe_slL ?_ | with_reducible refine wpe_slA ?_ | with_reducible refine wpe_cat ?_ | with_reducible refine wpe_catA ?_ | with_reducible refine wpe_rep ?_ | with_reducible refine wpe_isiR ?_ | (refine wpe_isiI (by simp) ?_) | with_reducible refine wpe_len ?_ | with_reducible refine wpe_listOf ?_ | with_reducible refine wpe_tupleOf ?_ | with_reducible refine wpe_all ?_ | with_reducible refine wpe_any ?_ | with_reducible refine wpe_sum ?_ | with_reducible refine wpe_max ?_ | with_reducible refine wpe_sortedI ?_ | with_reducible refine wpe_intOf ?_ | with_reducible refine wpe_isi ?_ | with_reducible refine wpe_count ?_ | with_reducible refine wpe_pop ?_ | with_reducible refine wpe_tup ?_ | with_reducible refine wpe_lst ?_ | (refine wpa_nil ?_) | with_reducible refine wpa_cons ?_ | (refine wpo_none ?_) | with_reducible refine wpo_some ?_ | with_reducible refine wpt_test ?_ | with_reducible refine wpt_B ?_ | with_reducible refine wpt_and ?_ | with_reducible refine wpt_or ?_ | with_reducible refine wpt_not ?_ | (refine wpt_yes ?_) | with_reducible refine wps_seq ?_ | with_reducible refine wps_set ?_ | with_reducible refine wps_ret ?_ | with_reducible refine wps_if ?_ | with_reducible refine wps_par ?_ | with_reducible refine wps_app ?_ | (refine wps_next ?_) | (refine wps_brk ?_) | (refine wps_cont ?_) | (refine wps_retN ?_) | with_reducible refine wps_drop ?_ | with_reducible refine wps_asg ?_ | with_reducible refine wpe_fld (by assumption) (by simp) ?_)
local macro_rules | `(tactic| walk_at "w") => `(tactic| (walk_at "wx"; repeat (walk_at "wx")))
local macro_rules | `(tactic| walk_at "gx") => `(tactic| first | (walk_at "wx") | with_reducible refine wpe_cA1 ?_ | with_reducible refine wpe_cA2 ?_ | with_reducible refine wpe_cA3 ?_ | with_reducible refine wpe_cB1 ?_ | with_reducible refine wpe_cB2 ?_ | with_reducible refine wpe_cB3 ?_ | with_reducible refine wpe_cB4 ?_ | with_reducible refine wpe_cB5 ?_ | (refine wpe_cN0 rfl ?_) | (refine wpe_cN1 rfl ?_) | (refine wpe_cN2 rfl ?_) | (refine wpe_cN3 rfl ?_) | (refine ⟨_, rfl, ?_⟩) | (refine ⟨_, _, rfl, rfl, ?_⟩) | (refine ⟨_, _, _, rfl, rfl, rfl, ?_⟩) | (refine ⟨_, _, _, _, rfl, rfl, rfl, rfl, rfl, ?_⟩) | (refine ⟨_, _, _, _, rfl, rfl, rfl, rfl, ?_⟩) | (refine ⟨_, _, _, _, _, rfl, rfl, rfl, rfl, rfl, ?_⟩) | (refine ⟨_, _, rfl, ?_⟩))
local macro_rules | `(tactic| walk_at "g") => `(tactic| (walk_at "gx"; repeat (walk_at "gx")))
local macro_rules | `(tactic| walk_at "ln") => `(tactic| first | omega | (simp [LL, rowD, iL, iN]; done) | (simp [LL, rowD, iL, iN]; omega) | (simp [LL, rowD, iL, iN] at *; omega))
/-! ### plain: the joined letters -/
def L1 (n : Nat) : List Row := (List.range n).map fun i => (List.range (n + 1)).map fun p => if p = i then some (p + 1) else none
def W2 (n : Nat) : List Row := jweb (L1 n) (L1 n)
def W3 (n : Nat) : List Row := jweb (W2 n) (L1 n)
def placeI (n : Nat) (w : List Int) : Int := w.foldl (fun p x => p * ((n : Int) + 1) + x) 0
def placeO (n : Nat) (w : Option (List Int)) : Option Nat := w.map fun w => (placeI n w).toNat
def endsOK (n : Nat) : Bool := (List.range n).all fun i => (List.range (n + 1)).all fun a => (List.range (n + 1)).all fun b => (List.range (n + 1)).all fun c =>
  decide (((W3 n).getD i [])[(a * (n + 1) + b) * (n + 1) + c]? = some (placeO n (wDown (i : Int) [(a : Int), (b : Int), (c : Int)])))
def websOK (n : Nat) : Bool := okW (L1 n) && okD (L1 n) && okW (W2 n) && okD (W2 n) && okW (W3 n) && decide (manyF (L1 n) = n + 1) && decide (manyF (W2 n) = (n + 1) * (n + 1)) && decide ((L1 n).length = n) && decide ((W2 n).length = n) && decide ((W3 n).length = n)
set_option maxRecDepth 1000000 in
theorem webs1 : websOK 1 = true := by decide +kernel
set_option maxRecDepth 1000000 in
theorem ends1 : endsOK 1 = true := by decide +kernel
set_option maxRecDepth 1000000 in
theorem webs2 : websOK 2 = true := by decide +kernel
set_option maxRecDepth 1000000 in
theorem ends2 : endsOK 2 = true := by decide +kernel
set_option maxRecDepth 1000000 in
theorem webs3 : websOK 3 = true := by decide +kernel
set_option maxRecDepth 1000000 in
theorem ends3 : endsOK 3 = true := by decide +kernel
set_option maxRecDepth 1000000 in
theorem webs4 : websOK 4 = true := by decide +kernel
set_option maxRecDepth 1000000 in
theorem ends4 : endsOK 4 = true := by decide +kernel
set_option maxRecDepth 1000000 in
theorem webs5 : websOK 5 = true := by decide +kernel
set_option maxRecDepth 1000000 in
theorem ends5 : endsOK 5 = true := by decide +kernel
theorem webs_ok {n : Nat} (h1 : 1 ≤ n) (h5 : n ≤ 5) : websOK n = true ∧ endsOK n = true := by
  have : n = 1 ∨ n = 2 ∨ n = 3 ∨ n = 4 ∨ n = 5 := by omega
  rcases this with rfl | rfl | rfl | rfl | rfl
  · exact ⟨webs1, ends1⟩
  · exact ⟨webs2, ends2⟩
  · exact ⟨webs3, ends3⟩
  · exact ⟨webs4, ends4⟩
  · exact ⟨webs5, ends5⟩
theorem webs_iff {n : Nat} (h1 : 1 ≤ n) (h5 : n ≤ 5) : okW (L1 n) = true ∧ okD (L1 n) = true ∧ okW (W2 n) = true ∧ okD (W2 n) = true ∧ okW (W3 n) = true ∧ manyF (L1 n) = n + 1 ∧ manyF (W2 n) = (n + 1) * (n + 1) ∧ (L1 n).length = n ∧ (W2 n).length = n ∧ (W3 n).length = n := by
  have := (webs_ok h1 h5).1
  unfold websOK at this
  simp only [Bool.and_eq_true, decide_eq_true_eq] at this
  obtain ⟨⟨⟨⟨⟨⟨⟨⟨⟨a1, a2⟩, a3⟩, a4⟩, a5⟩, a6⟩, a7⟩, a8⟩, a9⟩, a10⟩ := this
  exact ⟨a1, a2, a3, a4, a5, a6, a7, a8, a9, a10⟩
theorem ends_iff {n i a b c : Nat} (h1 : 1 ≤ n) (h5 : n ≤ 5) (hi : i < n) (ha : a < n + 1) (hb : b < n + 1) (hc : c < n + 1) : ((W3 n).getD i [])[(a * (n + 1) + b) * (n + 1) + c]? = some (placeO n (wDown (i : Int) [(a : Int), (b : Int), (c : Int)])) := by
  have := (webs_ok h1 h5).2
  unfold endsOK at this
  simp only [List.all_eq_true, List.mem_range, decide_eq_true_eq] at this
  exact this i hi a ha b hb c hc
end P75
set_option Elab.async false
set_option linter.all false
set_option maxRecDepth 100000
set_option maxHeartbeats 4000000
namespace P75
open PySem L2 Evl DL RZ
local macro_rules | `(tactic| walk_at "wx") => `(tactic| first | (refine wpe_var rfl rfl ?_) | (refine wpe_int ?_) | (refine wpe_str ?_) | (refine wpe_non ?_) | (refine wpe_bl ?_) | (refine wpe_ty ?_) | (refine wpe_ref ?_) | with_reducible refine wpe_add ?_ | with_reducible refine wpe_sub ?_ | with_reducible refine wpe_mul ?_ | with_reducible refine wpe_mod ?_ | with_reducible refine wpe_fdiv ?_ | with_reducible refine wpe_pow ?_ | with_reducible refine wpe_lt ?_ | with_reducible refine wpe_le ?_ | with_reducible refine wpe_gt ?_ | with_reducible refine wpe_ge ?_ | with_reducible refine wpe_eqS ?_ | with_reducible refine wpe_neS ?_ | with_reducible refine wpe_neg ?_ | with_reducible refine wpe_chainLeLt ?_ | with_reducible refine wpe_chainLeLe ?_ | with_reducible refine wpe_eqD ?_ | with_reducible refine wpe_neD ?_ | with_reducible refine wpe_isNn ?_ | with_reducible refine wpe_notNn ?_ | with_reducible refine wpe_inI ?_ | with_reducible refine wpe_if ?_ | with_reducible refine wpe_andV ?_ | with_reducible refine wpe_orV ?_ | with_reducible refine wpe_notV ?_ | with_reducible refine wpe_ix ?_ | with_reducible refine wpe_slL ?_ | with_reducible refine wpe_slA ?_ | with_reducible refine wpe_cat ?_ | with_reducible refine wpe_catA ?_ | with_reducible refine wpe_rep ?_ | with_reducible refine wpe_isiR ?_ | (refine wpe_isiI (by simp) ?_) | with_reducible refine wpe_len ?_ | with_reducible refine wpe_listOf ?_ | with_reducible refine wpe_tupleOf ?_ | with_reducible refine wpe_all ?_ | with_reducible refine wpe_any ?_ | with_reducible refine wpe_sum ?_ | with_reducible refine wpe_max ?_ | with_reducible refine wpe_sortedI ?_ | with_reducible refine wpe_intOf ?_ | with_reducible refine wpe_isi ?_ | with_reducible refine wpe_count ?_ | with_reducible refine wpe_pop ?_ | with_reducible refine wpe_tup ?_ | with_reducible refine wpe_lst ?_ | (refine wpa_nil ?_) | with_reducible refine wpa_cons ?_ | (refine wpo_none ?_) | with_reducible refine wpo_some ?_ | with_reducible refine wpt_test ?_ | with_reducible refine wpt_B ?_ | with_reducible refine wpt_and ?_ | with_reducible refine wpt_or ?_ | with_reducible refine wpt_not ?_ | (refine wpt_yes ?_) | with_reducible refine wps_seq ?_ | with_reducible refine wps_set ?_ | with_reducible refine wps_ret ?_ | with_reducible refine wps_if ?_ | with_reducible refine wps_par ?_ | with_reducible refine wps_app ?_ | (refine wps_next ?_) | (refine wps_brk ?_) | (refine wps_cont ?_) | (refine wps_retN ?_) | with_reducible refine wps_drop ?_ | with_reducible refine wps_asg ?_ | with_reducible refine wpe_fld (by assumption) (by simp) ?_)
local macro_rules | `(tactic| walk_at "w") => `(tactic| (walk_at "wx"; repeat (walk_at "wx")))
local macro_rules | `(tactic| walk_at "gx") => `(tactic| first | (walk_at "wx") | with_reducible refine wpe_cA1 ?_ | with_reducible refine wpe_cA2 ?_ | with_reducible refine wpe_cA3 ?_ | with_reducible refine wpe_cB1 ?_ | with_reducible refine wpe_cB2 ?_ | with_reducible refine wpe_cB3 ?_ | with_reducible refine wpe_cB4 ?_ | with_reducible refine wpe_cB5 ?_ | (refine wpe_cN0 rfl ?_) | (refine wpe_cN1 rfl ?_) | (refine wpe_cN2 rfl ?_) | (refine wpe_cN3 rfl ?_) | (refine ⟨_, rfl, ?_⟩) | (refine ⟨_, _, rfl, rfl, ?_⟩) | (refine ⟨_, _, _, rfl, rfl, rfl, ?_⟩) | (refine ⟨_, _, _, _, rfl, rfl, rfl, rfl, rfl, ?_⟩) | (refine ⟨_, _, _, _, rfl, rfl, rfl, rfl, ?_⟩) | (refine ⟨_, _, _, _, _, rfl, rfl, rfl, rfl, rfl, ?_⟩) | (refine ⟨_, _, rfl, ?_⟩))
local macro_rules | `(tactic| walk_at "g") => `(tactic| (walk_at "gx"; repeat (walk_at "gx")))
local macro_rules | `(tactic| walk_at "ln") => `(tactic| first | omega | (simp [LL, rowD, iL, iN]; done) | (simp [LL, rowD, iL, iN]; omega) | (simp [LL, rowD, iL, iN] at *; omega))
/-! ### joined letters lower words -/
def webAt (n : Nat) : Nat → List Row
  | 0 => L1 n
  | 1 => W2 n
  | _ => W3 n
def W_joined_right : WfN := fun ds c Φ => ∃ n : Nat, ds = [.int (n : Int)] ∧ 1 ≤ n ∧ n ≤ 5 ∧ c + 10 < 1000000000 ∧ ∀ c', c ≤ c' → c' ≤ c + 10 → Φ (.bool true) c'
theorem place_snoc (n : Nat) (w : List Int) (x : Int) : placeI n (w ++ [x]) = placeI n w * ((n : Int) + 1) + x := by
  unfold placeI
  rw [List.foldl_append]
  rfl
theorem place_nonneg {n : Nat} {w : List Int} (h : ∀ x ∈ w, 0 ≤ x) : 0 ≤ placeI n w := by
  refine snoc_ind (P := fun w => (∀ x ∈ w, 0 ≤ x) → 0 ≤ placeI n w) (fun _ => by simp [placeI]) (fun w x ih h => ?_) w h
  rw [place_snoc]
  have h1 := ih fun y hy => h y (List.mem_append_left _ hy)
  have h2 := h x (by simp)
  have := Int.mul_nonneg h1 (show (0 : Int) ≤ (n : Int) + 1 by omega)
  omega
theorem w_joined_right {C : Cn} {A : Ads} {ds : List PyData} {c : Nat} {Φ : PyData → Nat → Prop} (O : OwnC C.K C.cl "Web" A.c_Web fWeb) (h : W_joined_right ds c Φ) :
    wps C (t__law_joined_right C.K A (spI C.K C.cl "Web" A.c_Web W_Web) (spN C.K C.cl C.pk W_draw) (spP C.K C.cl W_joined) (spP C.K C.cl W_lower_word)) (start0 (.pen :: ds.map .d) 12 c) (DN Φ) := by
  obtain ⟨n, rfl, h1, h5, hc, h⟩ := h
  obtain ⟨a1, a2, a3, a4, a5, a6, a7, a8, a9, a10⟩ := webs_iff h1 h5
  unfold t__law_joined_right
  -- the letter
  refine wps_seq (wps_set (wpe_mk0 O.cl (wpa_cons ?_)))
  refine wpe_lcP (List.range n) (fun i => .int (0 + (i : Int))) (fun _ => true) (fun i => .list (rowD ((List.range (n + 1)).map fun p => if p = i then some (p + 1) else none))) (tgw_name (by simp)) ?_
  refine wpi_rng1 ?_
  walk_at "g"
  refine ⟨by omega, by omega, rfl, by simp; omega, ?_, ?_⟩
  · rintro i hi ⟨sl, ms, c⟩ e1 e2 e3
    have e1 : sl = _ := e1
    subst e1
    refine wpg_name ?_
    walk_at "w"
    refine ⟨rfl, e2, rfl, fun _ => ?_⟩
    refine (wpe_lcP (List.range (n + 1)) (fun p => .int (0 + (p : Int))) (fun _ => true) (fun p => oD (if p = i then some (p + 1) else none)) (tgw_name (by simp)) ?_)
    refine wpi_rng1 ?_
    walk_at "g"
    refine ⟨by omega, by omega, ?_, by simp; omega, ?_, ?_⟩
    · rw [show ((n : Int) + 1).toNat = n + 1 by omega]
      rfl
    · rintro p hp ⟨sl2, ms2, c2⟩ e4 e5 e6
      have e4 : sl2 = _ := e4
      subst e4
      refine wpg_name ?_
      walk_at "w"
      refine ⟨rfl, e5, rfl, fun _ => ?_⟩
      rw [Int.zero_add, Int.zero_add]
      walk_at "w"
      refine ⟨_, _, _, _, rfl, rfl, rfl, rfl, rfl, _, rfl, fun e => ?_, fun e => ?_⟩
      · have e : p = i := Int.ofNat_inj.mp (by simpa using e)
        walk_at "w"
        refine ⟨_, _, rfl, rfl, ?_, e5, rfl⟩
        rw [if_pos e]
        rfl
      · have e : ¬ p = i := fun z => (show ¬ (p : Int) = (i : Int) by simpa using e) (congrArg _ z)
        walk_at "w"
        refine ⟨?_, e5, rfl⟩
        rw [if_neg e]
        rfl
    · rw [filter_tt]
      refine ⟨?_, e2, rfl⟩
      rw [rowD, List.map_map]
      rfl
  rw [filter_tt]
  refine wpa_nil ⟨[_], rfl, L1 n, ?_, a1, fun _ => ?_⟩
  · rw [LL, L1, List.map_map]
    rfl
  -- the first letter
  refine wps_seq (wps_par (wpa_cons (wpe_lstM (wpa_cons (wpe_cN1 rfl ?_)))))
  walk_at "w"
  refine ⟨_, _, rfl, rfl, _, rfl, _, rfl, by omega, by omega, by show c < 1000000000; omega, fun a0 ha0 ha1 => wpa_nil ⟨by simp, ?_⟩⟩
  obtain ⟨a, rfl⟩ : ∃ a : Nat, a0 = (a : Int) := ⟨a0.toNat, by omega⟩
  walk_at "w"
  refine ⟨_, _, rfl, ?_⟩
  walk_at "w"
  refine ⟨[.d (.int (a : Int))], 0, .d (.int (a : Int)), rfl, rfl, rfl, ?_⟩
  -- two more
  refine wps_seq ?_
  refine wps_for (items := rng 0 2) (fun j s => ∃ (ls : List Nat) (w7 : W), s = ⟨[.pen, .d (.int (n : Int)), .no, .d (.int (placeI n (iLN ls))), .d (webD (L1 n)), .m 0, .d (webD (webAt n j)), w7, .no, .no, .no, .no], [some ((iL (iLN ls)).map .d)], c + 1 + j⟩ ∧ ls.length = j + 1 ∧ ∀ x ∈ ls, x < n + 1) ?_ ?_ ?_
  · refine wpi_rng1 ?_
    walk_at "g"
    refine ⟨by omega, by omega, rfl, [a], .no, ?_, rfl, fun x hx => ?_⟩
    · simp [placeI, iLN, iL]
      rfl
    · have : x = a := by simpa using hx
      omega
  · rintro j d s1 hd ⟨ls, w7, rfl, hll, hlx⟩
    obtain ⟨hj, rfl⟩ := rng_get hd
    have hcube : (n + 1) * (n + 1) * (n + 1) ≤ 216 ∧ (n + 1) * (n + 1) ≤ 36 := by
      have : n = 1 ∨ n = 2 ∨ n = 3 ∨ n = 4 ∨ n = 5 := by omega
      rcases this with rfl | rfl | rfl | rfl | rfl <;> decide
    have F : okW (webAt n j) = true ∧ okD (webAt n j) = true ∧ manyF (webAt n j) * (n + 1) ≤ 216 ∧ manyF (webAt n j) ≤ 36 ∧ (webAt n j).length = n ∧ okW (webAt n (j + 1)) = true ∧ jweb (webAt n j) (L1 n) = webAt n (j + 1) := by
      have : j = 0 ∨ j = 1 := by omega
      rcases this with rfl | rfl
      · exact ⟨a1, a2, by show manyF (L1 n) * (n + 1) ≤ 216; rw [a6]; omega, by show manyF (L1 n) ≤ 36; omega, a8, a3, rfl⟩
      · exact ⟨a3, a4, by show manyF (W2 n) * (n + 1) ≤ 216; rw [a7]; omega, by show manyF (W2 n) ≤ 36; omega, a9, a5, rfl⟩
    obtain ⟨f1, f2, f3, f4, f5, f6, f7⟩ := F
    refine wpg_name ?_
    refine wps_if (wpt_test (wpe_le ?_))
    walk_at "g"
    refine ⟨.inl ⟨by omega, by omega⟩, ?_⟩
    walk_at "g"
    refine ⟨fun _ => ?_, fun e => ?_⟩
    · refine wps_seq (wps_set (wpe_cB2 ?_))
      walk_at "w"
      refine ⟨_, _, rfl, rfl, webAt n j, L1 n, rfl, f1, a1, f2, a2, by rw [a6]; omega, by rw [f5, a8], by rw [f7]; exact f6, ?_⟩
      rw [f7]
      refine wps_seq (wps_app ?_)
      walk_at "w"
      refine ⟨0, _, rfl, rfl, wpe_cN1 rfl ?_⟩
      walk_at "w"
      refine ⟨_, _, rfl, rfl, _, rfl, _, rfl, by omega, by omega, by show c + 1 + j < 1000000000; omega, fun a0 ha0 ha1 => ?_⟩
      obtain ⟨b, rfl⟩ : ∃ b : Nat, a0 = (b : Int) := ⟨a0.toNat, by omega⟩
      refine ⟨_, rfl, by rw [List.length_map, iL_len, iLN, List.length_map]; omega, ?_⟩
      walk_at "w"
      refine ⟨_, _, rfl, rfl, _, _, rfl, rfl, .inr ⟨by omega, by omega⟩, ?_⟩
      walk_at "w"
      refine ⟨_, rfl, (iL (iLN ls)).map .d ++ [.d (.int (b : Int))], -1, .d (.int (b : Int)), rfl, rfl, atI_last (by simp), _, _, rfl, rfl, ls ++ [b], .d (.int (0 + (j : Int))), ?_, by simp; omega, fun x hx => ?_⟩
      · have e1 : iLN (ls ++ [b]) = iLN ls ++ [(b : Int)] := by simp [iLN]
        rw [e1, place_snoc]
        simp only [iL, List.map_append]
        rfl
      · rcases List.mem_append.mp hx with q | q
        · exact hlx x q
        · have : x = b := by simpa using q
          omega
    · exfalso
      have e := of_decide_eq_false e
      apply e
      have e2 : ((manyF (webAt n j) * (n + 1) : Nat) : Int) = (manyF (webAt n j) : Int) * ((n : Int) + 1) := by
        rw [Int.natCast_mul]
        rfl
      rw [← e2]
      omega
  · rintro s1 ⟨ls, w7, rfl, hll, hlx⟩
    rw [rng_len] at hll ⊢
    obtain ⟨x1, x2, x3, rfl⟩ : ∃ x1 x2 x3, ls = [x1, x2, x3] := by
      match ls, hll with
      | [x1, x2, x3], _ => exact ⟨x1, x2, x3, rfl⟩
    have b1 := hlx x1 (by simp)
    have b2 := hlx x2 (by simp)
    have b3 := hlx x3 (by simp)
    have hwd : okWd (n : Int) (iLN [x1, x2, x3]) := ⟨by simp [iLN], fun x hx => by
      have : x = (x1 : Int) ∨ x = (x2 : Int) ∨ x = (x3 : Int) := by simpa [iLN] using hx
      omega⟩
    have G : GW (n : Int) (iLN [x1, x2, x3]) (.list (iL (iLN [x1, x2, x3]))) := ⟨by omega, by omega, hwd, rfl⟩
    refine wps_frz (ds := iL (iLN [x1, x2, x3])) 0 rfl ?_
    refine wps_seq ?_
    have hp : placeI n (iLN [x1, x2, x3]) = (((x1 * (n + 1) + x2) * (n + 1) + x3 : Nat) : Int) := by
      simp [placeI, iLN]
    rw [hp]
    refine wps_for (items := rng 0 n) (fun j s => ∃ w2 w7 w8 w9 w10 w11, s = ⟨[.pen, .d (.int (n : Int)), w2, .d (.int (((x1 * (n + 1) + x2) * (n + 1) + x3 : Nat) : Int)), .d (webD (L1 n)), .d (.list (iL (iLN [x1, x2, x3]))), .d (webD (W3 n)), w7, w8, w9, w10, w11], [none], c + 1 + 2⟩) ?_ ?_ ?_
    · refine wpi_rng1 ?_
      walk_at "w"
      exact ⟨(n : Int), rfl, by omega, by omega, rfl, _, _, _, _, _, _, rfl⟩
    · rintro i d s1 hd ⟨w2, w7, w8, w9, w10, w11, rfl⟩
      obtain ⟨hi, rfl⟩ := rng_get hd
      rw [Int.zero_add]
      have hend := ends_iff h1 h5 hi b1 b2 b3
      have hrow : (W3 n)[i]? = some ((W3 n).getD i []) := by
        rw [List.getD_eq_getElem?_getD, List.getElem?_eq_getElem (by omega)]
        rfl
      refine wpg_name ?_
      refine wps_seq (wps_par (wpa_cons (wpe_cB3 ?_)))
      walk_at "w"
      refine ⟨_, _, _, rfl, rfl, rfl, G.ask (Int.natCast_nonneg i) (by omega) ?_⟩
      walk_at "w"
      refine ⟨_, _, rfl, rfl, ?_⟩
      walk_at "w"
      refine ⟨_, _, _, rfl, rfl, arr_at hrow, ?_⟩
      walk_at "w"
      refine ⟨_, _, _, rfl, rfl, row_get hend, ?_⟩
      walk_at "w"
      refine ⟨_, _, rfl, ?_⟩
      rw [show ([(x1 : Int), (x2 : Int), (x3 : Int)] : List Int) = iLN [x1, x2, x3] from rfl]
      cases hdn : wDown (i : Int) (iLN [x1, x2, x3]) with
      | none =>
        walk_at "w"
        refine ⟨true, rfl, _, rfl, fun e => (nomatch e), fun _ => ?_⟩
        walk_at "w"
        refine ⟨.none, .none, .non, .non, rfl, rfl, rfl, rfl, rfl, _, rfl, fun e => ?_, fun _ => ?_⟩
        · simp at e
        walk_at "w"
        exact ⟨_, _, _, _, _, _, rfl⟩
      | some v =>
        have hv := down_ok hwd (Int.natCast_nonneg i) (by omega) hdn
        walk_at "w"
        refine ⟨false, rfl, _, rfl, fun _ => ?_, fun e => nomatch e⟩
        walk_at "w"
        refine wps_for (items := iL v) (fun t s => ∃ w11, s = ⟨[.pen, .d (.int (n : Int)), .d (.int (i : Int)), .d (.int (((x1 * (n + 1) + x2) * (n + 1) + x3 : Nat) : Int)), .d (webD (L1 n)), .d (.list (iL (iLN [x1, x2, x3]))), .d (webD (W3 n)), w7, .d (.tuple (iL v)), .d (oD (placeO n (some v))), .d (.int (placeI n (v.take t))), w11], [none], c + 1 + 2⟩) ?_ ?_ ?_
        · refine wpi_tup ?_
          walk_at "w"
          exact ⟨_, rfl, rfl, w11, rfl⟩
        · rintro t d s1 hd ⟨w11, rfl⟩
          obtain ⟨y, hy, rfl⟩ : ∃ y, v[t]? = some y ∧ d = .int y := by
            rw [iL, List.getElem?_map] at hd
            cases e : v[t]? with
            | none => simp [e] at hd
            | some a => exact ⟨a, rfl, by simpa [e] using hd.symm⟩
          refine wpg_name ?_
          walk_at "w"
          refine ⟨_, _, rfl, rfl, _, _, rfl, rfl, .inr ⟨by omega, by omega⟩, ?_⟩
          walk_at "w"
          refine ⟨_, _, rfl, rfl, .d (.int y), ?_⟩
          rw [List.take_succ, hy, Option.toList_some, place_snoc]
          rfl
        · rintro s1 ⟨w11, rfl⟩
          rw [iL_len, List.take_length]
          have hpl : (((placeI n v).toNat : Nat) : Int) = placeI n v := Int.toNat_of_nonneg (place_nonneg fun x hx => (hv.2 x hx).1)
          walk_at "w"
          refine ⟨.int (placeI n v), .int ((placeI n v).toNat : Int), _, _, rfl, rfl, rfl, rfl, rfl, _, rfl, fun e => ?_, fun _ => ?_⟩
          · rw [hpl] at e
            simp at e
          walk_at "w"
          exact ⟨_, _, _, _, _, _, rfl⟩
    · rintro s1 ⟨w2, w7, w8, w9, w10, w11, rfl⟩
      walk_at "w"
      exact ⟨_, rfl, h (c + 1 + 2) (by omega) (by omega)⟩
end P75
set_option Elab.async false
set_option linter.all false
set_option maxRecDepth 100000
set_option maxHeartbeats 4000000
namespace P75
open PySem L2 Evl DL RZ
/-! ### _law_heard -/
abbrev s__law_heard : Stmt := top 59
abbrev N__law_heard : List Str := ["call", "e"]
theorem sc__law_heard : FnScope N__law_heard ["call"] (defScope s__law_heard) := ⟨rfl, rfl, rfl, by decide +kernel, rfl, by decide +kernel, by decide +kernel⟩
abbrev hs__law_heard (A : Ads) : List HS := [⟨"BadNumber", A.c_BadNumber, "number", [.f "what", .r "value"]⟩, ⟨"BadLetters", A.c_BadLetters, "letters", [.f "index"]⟩, ⟨"BadColour", A.c_BadColour, "colour", [.r "value"]⟩]
theorem hds__law_heard {X : Cx} {A : Ads} {k : Nat} (HX : HxC X.K X.mg (hs__law_heard A)) (hgd : X.A.guards = some []) (hr : Room (k + 1) X.A) (T : Tx X.K X.mg A) (g : Addr) (cdg : Value) (s2 : Shared) (H2 : Hp) : HdsA (cxOf C8.CX0 X.prog X.w X.K X.mg X.base N__law_heard "_law_heard" (defScope s__law_heard) g cdg X.A X.stack s2 H2 C8.E0).nox "e" (tryHs s__law_heard) (hsL X.K (hs__law_heard A)) :=
  (.cons ⟨rfl, by decide, .inl (HX.mg _ (.head _))⟩ (fun a oe cls d pn hz hf => pss_one (ps_ret (pe_tup (pa_cons pe_str (pa_cons (pe_xf (HX.xf _ (.head _)) (HX.no _ (.head _) _ (.head _)) hz hf (pv 1)) (pa_cons (pe_callB (call_reprD hgd (hu65d hr)) (by rfl) T.g_repr bt_repr2 (pa_cons (pe_xf (HX.xf _ (.head _)) (HX.no _ (.head _) _ (.tail _ (.head _))) hz hf (pv 1)) pa_nil)) pa_nil))))))
    (.cons ⟨rfl, by decide, .inl (HX.mg _ (.tail _ (.head _)))⟩ (fun a oe cls d pn hz hf => pss_one (ps_ret (pe_tup (pa_cons pe_str (pa_cons (pe_xf (HX.xf _ (.tail _ (.head _))) (HX.no _ (.tail _ (.head _)) _ (.head _)) hz hf (pv 1)) pa_nil)))))
    (.cons ⟨rfl, by decide, .inl (HX.mg _ (.tail _ (.tail _ (.head _))))⟩ (fun a oe cls d pn hz hf => pss_one (ps_ret (pe_tup (pa_cons pe_str (pa_cons (pe_callB (call_reprD hgd (hu65d hr)) (by rfl) T.g_repr bt_repr2 (pa_cons (pe_xf (HX.xf _ (.tail _ (.tail _ (.head _)))) (HX.no _ (.tail _ (.tail _ (.head _))) _ (.head _)) hz hf (pv 1)) pa_nil)) pa_nil)))))
    .nil)))
/-! ### _law_errors_right -/
abbrev s__law_errors_right : Stmt := top 60
abbrev N__law_errors_right : List Str := ["pen", "n", "word", "size", "at", "wrong", "odd", "some", "due", "found", "colour", "first", "second"]
theorem sc__law_errors_right : FnScope N__law_errors_right ["pen", "n", "word"] (defScope s__law_errors_right) := ⟨rfl, rfl, rfl, by decide +kernel, rfl, by decide +kernel, by decide +kernel⟩
def t__law_errors_right (K : PySem.W.Frag) (A : Ads) (Tb : List (Addr × Str)) (Pt : Addr) (sp__law_pick : Sp) (sp__law_draw : Sp) (sp__law_odd_point : Sp) (sp_lower_word : Sp) (sp_raise_word : Sp) (sp_word_depths : Sp) (sp_word_weight : Sp) (sp_is_high_word : Sp) : TS :=
    (tSeq (tPar 3 4 (tCons (tCall sp__law_pick [] E0 (tCons (tVar 0) (tCons (tLst (tCons (tC (.int 0)) (tCons (tC (.int 6)) (tCons (tUn rNegI (tC (.int 1))) (tCons (tC .non) (tCons (tC (.bl true)) (tCons (tC (.str "2")) tNil))))))) tNil))) (tCons (tCall sp__law_draw [] E0 (tCons (tVar 0) (tCons (tOp rAddI (tCB (rLenS K) (tCons (tVar 2) tNil)) (tC (.int 1))) tNil))) tNil)))
    (tSeq (tAsg (tOp rCat (tOp rCat (tOp rCat (tSl (rSlL K) (tVar 2) tNoPart (tPart (tVar 4))) (tLst (tCons (tCall sp__law_pick [] E0 (tCons (tVar 0) (tCons (tLst (tCons (tOp rAddI (tVar 1) (tC (.int 1))) (tCons (tUn rNegI (tC (.int 1))) (tCons (tC .non) (tCons (tC (.bl true)) (tCons (tC (.str "0")) tNil)))))) tNil))) tNil))) (tSl (rSlL K) (tVar 2) (tPart (tVar 4)) tNoPart)) (tLst (tCons (tC .non) tNil))) (gName 5))
    (tSeq (tAsg (tTup (tCons (tCall sp__law_pick [] E0 (tCons (tVar 0) (tCons (tLst (tCons (tC .non) (tCons (tC (.int 3)) (tCons (tC (.str "01")) (tCons (tC (.bl true)) (tCons (tOp rRep (tLst (tCons (tC (.int 0)) tNil)) (tC (.int 41))) tNil)))))) tNil))) (tCons (tCall sp__law_odd_point [] E0 (tCons (tVar 0) (tCons (tVar 1) tNil))) tNil))) (gTup K 2 (gCons (gName 6) (gCons (gName 10) gNil))))
    (tSeq (tAsg (tLst (tCons (tTup (tCons (tVar 3) (tCons (tVar 6) (tCons (tTup (tCons (tC (.str "number")) (tCons (tC (.str "n")) (tCons (tCB (rReprD K) (tCons (tVar 3) tNil)) tNil)))) tNil)))) (tCons (tTup (tCons (tVar 1) (tCons (tVar 5) (tCons (tTup (tCons (tC (.str "letters")) (tCons (tVar 4) tNil))) tNil)))) (tCons (tTup (tCons (tVar 1) (tCons (tVar 6) (tCons (tTup (tCons (tC (.str "letters")) (tCons (tC .non) tNil))) tNil)))) tNil)))) (gName 7))
    (tSeq (tFor (iList K (tVar 7)) (gTup K 3 (gCons (gName 11) (gCons (gName 12) (gCons (gName 8) gNil)))) (tSeq (tAsg (tLst (tCons (LamX.tLam3 Pt Tb (TTh K (hs__law_heard A)) (fun E => tCall sp_lower_word [] E (tCons (tVar 11) (tCons (tVar 12) (tCons (tVar 10) tNil))))) tNil)) (gName 9))
    (tSeq (tDrop (tBM K "list" rAppend (tVar 9) (tCons (LamX.tLam3 Pt Tb (TTh K (hs__law_heard A)) (fun E => tCall sp_raise_word [] E (tCons (tVar 11) (tCons (tVar 12) (tCons (tVar 10) tNil))))) tNil)))
    (tSeq (tDrop (tBM K "list" rAppend (tVar 9) (tCons (LamX.tLam3 Pt Tb (TTh K (hs__law_heard A)) (fun E => tCall sp_word_depths [] E (tCons (tVar 11) (tCons (tVar 12) (tCons (tVar 10) tNil))))) tNil)))
    (tSeq (tDrop (tBM K "list" rAppend (tVar 9) (tCons (LamX.tLam3 Pt Tb (TTh K (hs__law_heard A)) (fun E => tCall sp_word_weight [] E (tCons (tVar 11) (tCons (tVar 12) tNil)))) tNil)))
    (tSeq (tDrop (tBM K "list" rAppend (tVar 9) (tCons (LamX.tLam3 Pt Tb (TTh K (hs__law_heard A)) (fun E => tCall sp_is_high_word [] E (tCons (tVar 11) (tCons (tVar 12) tNil)))) tNil)))
    (tIfS (tTest (tOp (rNeD K) (tVar 9) (tOp rRep (tLst (tCons (tVar 8) tNil)) (tC (.int 5))))) (tRet (tC (.bl false))) tNext)))))))
    (tSeq (tAsg (tLst (tCons (LamX.tLam3 Pt Tb (TTh K (hs__law_heard A)) (fun E => tCall sp_lower_word [] E (tCons (tVar 1) (tCons (tVar 2) (tCons (tVar 10) tNil))))) tNil)) (gName 9))
    (tSeq (tDrop (tBM K "list" rAppend (tVar 9) (tCons (LamX.tLam3 Pt Tb (TTh K (hs__law_heard A)) (fun E => tCall sp_raise_word [] E (tCons (tVar 1) (tCons (tVar 2) (tCons (tVar 10) tNil))))) tNil)))
    (tSeq (tDrop (tBM K "list" rAppend (tVar 9) (tCons (LamX.tLam3 Pt Tb (TTh K (hs__law_heard A)) (fun E => tCall sp_word_depths [] E (tCons (tVar 1) (tCons (tVar 2) (tCons (tVar 10) tNil))))) tNil)))
    (tRet (tOp (rEqD K) (tVar 9) (tOp rRep (tLst (tCons (tTup (tCons (tC (.str "colour")) (tCons (tCB (rReprD K) (tCons (tVar 10) tNil)) tNil))) tNil)) (tC (.int 3)))))))))))))
theorem ok__law_errors_right {P : Program} {w : World} {K : PySem.W.Frag} {mg : Str → Option Value} {base : Heap} {A : Ads} {sp__law_pick : Sp} {sp__law_draw : Sp} {sp__law_odd_point : Sp} {sp_lower_word : Sp} {sp_raise_word : Sp} {sp_word_depths : Sp} {sp_word_weight : Sp} {sp_is_high_word : Sp} {sp : Sp} {f : Addr} {fd : FuncData} (F : Fun K "_law_errors_right" "_law_errors_right" s__law_errors_right f fd) (T : Tx K mg A) (c__law_pick : Cl P w K mg base CX0 2 "_law_pick" ["pen", "some"] sp__law_pick) (c__law_draw : Cl P w K mg base CX0 1 "_law_draw" ["pen", "many"] sp__law_draw) (c__law_odd_point : Cl P w K mg base CX0 3 "_law_odd_point" ["pen", "many"] sp__law_odd_point) (c_lower_word : Cl P w K mg base (L2.CX P w) 6 "lower_word" ["n", "word", "i"] sp_lower_word) (c_raise_word : Cl P w K mg base (L2.CX P w) 6 "raise_word" ["n", "word", "i"] sp_raise_word) (c_word_depths : Cl P w K mg base (L2.CX P w) 6 "word_depths" ["n", "word", "i"] sp_word_depths) (c_word_weight : Cl P w K mg base (L2.CX P w) 5 "word_weight" ["n", "word"] sp_word_weight) (c_is_high_word : Cl P w K mg base (L2.CX P w) 5 "is_high_word" ["n", "word"] sp_is_high_word) {Tb : List (Addr × Str)} {Pt : Addr} (HX : HxC K mg (hs__law_heard A)) (c__law_heard : ClH K mg "_law_heard" s__law_heard "call") (tb : ∃ c, LamX.TabB base mg c Pt ∧ fd.code = .ref c) (hm : (Pt, (("_law_errors_right" ++ ".<locals>." ++ "<lambda>") : Str)) ∈ Tb) (hu : ∀ p ∈ Tb, p.1 = Pt → p.2 = (("_law_errors_right" ++ ".<locals>." ++ "<lambda>") : Str))
    (hn : ∀ vs H Q E, sp vs H Q E → vs.length = 3) (hp : ∀ vs H Q E, sp vs H Q E → t__law_errors_right K A Tb Pt sp__law_pick sp__law_draw sp__law_odd_point sp_lower_word sp_raise_word sp_word_depths sp_word_weight sp_is_high_word { nx := fun _ H' => Q .non H', rt := Q } (L2.start N__law_errors_right vs) H) : FnOkG P w K mg base 9 f fd ["pen", "n", "word"] sp := by
  refine DL.Fun.okG F sc__law_errors_right hn (fun cdv A0 outer s H vs Q E hcd hfc hgd hr h => ⟨t__law_errors_right K A Tb Pt sp__law_pick sp__law_draw sp__law_odd_point sp_lower_word sp_raise_word sp_word_depths sp_word_weight sp_is_high_word, ?_, hp vs H Q E h⟩)
  have TX : TabX (cxOf CX0 P w K mg base N__law_errors_right "_law_errors_right" (defScope s__law_errors_right) f cdv A0 outer s H E).nox Tb Pt := ⟨by obtain ⟨c, h1, h2⟩ := tb; exact ⟨c, h1, hfc.symm.trans h2⟩, hm, hu⟩
  exact (pss_cons (ps_par (i := 3) (j := 4) (by rfl) sc__law_errors_right.nd rfl rfl (by decide) rfl rfl (pa_cons (pe_cl c__law_pick hr (by decide) rfl pass0 (pa_cons (pv 0) (pa_cons (pe_lst (pa_cons pe_int (pa_cons pe_int (pa_cons (pe_un un_neg pe_int) (pa_cons pe_non (pa_cons pe_bl (pa_cons pe_str pa_nil))))))) pa_nil))) (pa_cons (pe_cl c__law_draw hr (by decide) rfl pass0 (pa_cons (pv 0) (pa_cons (pe_op op_add (pe_callB call_len_seq (by rfl) T.g_len bt_len (pa_cons (pv 2) pa_nil)) pe_int) pa_nil))) pa_nil)) (by rfl))
      (pss_cons (ps_set (i := 5) sc__law_errors_right.nd rfl (Or.inl rfl) (pe_op op_cat (pe_op op_cat (pe_op op_cat (pe_slice sl_list (pv 2) po_none (po_some (pv 4))) (pe_lst (pa_cons (pe_cl c__law_pick hr (by decide) rfl pass0 (pa_cons (pv 0) (pa_cons (pe_lst (pa_cons (pe_op op_add (pv 1) pe_int) (pa_cons (pe_un un_neg pe_int) (pa_cons pe_non (pa_cons pe_bl (pa_cons pe_str pa_nil)))))) pa_nil))) pa_nil))) (pe_slice sl_list (pv 2) (po_some (pv 4)) po_none)) (pe_lst (pa_cons pe_non pa_nil))))
      (pss_cons (ps_asg (pe_tup (pa_cons (pe_cl c__law_pick hr (by decide) rfl pass0 (pa_cons (pv 0) (pa_cons (pe_lst (pa_cons pe_non (pa_cons pe_int (pa_cons pe_str (pa_cons pe_bl (pa_cons (pe_op op_rep (pe_lst (pa_cons pe_int pa_nil)) pe_int) pa_nil)))))) pa_nil))) (pa_cons (pe_cl c__law_odd_point hr (by decide) rfl pass0 (pa_cons (pv 0) (pa_cons (pv 1) pa_nil))) pa_nil))) (pg_tup rfl (pgs_cons (pg_name (i := 6) sc__law_errors_right.nd rfl (Or.inl rfl)) (pgs_cons (pg_name (i := 10) sc__law_errors_right.nd rfl (Or.inr rfl)) pgs_nil))))
      (pss_cons (ps_set (i := 7) sc__law_errors_right.nd rfl (Or.inl rfl) (pe_lst (pa_cons (pe_tup (pa_cons (pv 3) (pa_cons (pv 6) (pa_cons (pe_tup (pa_cons pe_str (pa_cons pe_str (pa_cons (pe_callB (call_reprD hgd (hu65 hr)) (by rfl) T.g_repr bt_repr2 (pa_cons (pv 3) pa_nil)) pa_nil)))) pa_nil)))) (pa_cons (pe_tup (pa_cons (pv 1) (pa_cons (pv 5) (pa_cons (pe_tup (pa_cons pe_str (pa_cons (pv 4) pa_nil))) pa_nil)))) (pa_cons (pe_tup (pa_cons (pv 1) (pa_cons (pv 6) (pa_cons (pe_tup (pa_cons pe_str (pa_cons pe_non pa_nil))) pa_nil)))) pa_nil)))))
      (pss_cons (ps_for PassesOwn.never rfl (pi_list (pv 7)) (pg_tup rfl (pgs_cons (pg_name (i := 11) sc__law_errors_right.nd rfl (Or.inr rfl)) (pgs_cons (pg_name (i := 12) sc__law_errors_right.nd rfl (Or.inr rfl)) (pgs_cons (pg_name (i := 8) sc__law_errors_right.nd rfl (Or.inl rfl)) pgs_nil)))) (pss_cons (ps_set (i := 9) sc__law_errors_right.nd rfl (Or.inl rfl) (pe_lst (pa_cons (pe_heard c__law_heard sc__law_heard rfl (Or.inl rfl) rfl (by decide +kernel) rfl rfl (fun _ => rfl) rfl (fun g cdg s2 H2 => hds__law_heard HX hgd hr T g cdg s2 H2) rfl TX (Room.mono hr (by decide : 6 + 2 ≤ 8)) (LamX.lamS_by rfl) rfl (fun _ _ _ _ _ => rfl) (fun A2 outer2 s2 H2 E2 f2 c2 hr2 => pe_cl c_lower_word hr2 (by decide) rfl (passes_call (takes_of rfl rfl rfl rfl) (fun _ _ _ _ h => h)) (pa_cons (pv 11) (pa_cons (pv 12) (pa_cons (pv 10) pa_nil))))) pa_nil)))
      (pss_cons (ps_expr (pe_bm PySem.F.plainAttrs_list PySem.F.slot_list_append PySem.F.type_list_append mt_append (pv 9) (pa_cons (pe_heard c__law_heard sc__law_heard rfl (Or.inl rfl) rfl (by decide +kernel) rfl rfl (fun _ => rfl) rfl (fun g cdg s2 H2 => hds__law_heard HX hgd hr T g cdg s2 H2) rfl TX (Room.mono hr (by decide : 6 + 2 ≤ 8)) (LamX.lamS_by rfl) rfl (fun _ _ _ _ _ => rfl) (fun A2 outer2 s2 H2 E2 f2 c2 hr2 => pe_cl c_raise_word hr2 (by decide) rfl (passes_call (takes_of rfl rfl rfl rfl) (fun _ _ _ _ h => h)) (pa_cons (pv 11) (pa_cons (pv 12) (pa_cons (pv 10) pa_nil))))) pa_nil)))
      (pss_cons (ps_expr (pe_bm PySem.F.plainAttrs_list PySem.F.slot_list_append PySem.F.type_list_append mt_append (pv 9) (pa_cons (pe_heard c__law_heard sc__law_heard rfl (Or.inl rfl) rfl (by decide +kernel) rfl rfl (fun _ => rfl) rfl (fun g cdg s2 H2 => hds__law_heard HX hgd hr T g cdg s2 H2) rfl TX (Room.mono hr (by decide : 6 + 2 ≤ 8)) (LamX.lamS_by rfl) rfl (fun _ _ _ _ _ => rfl) (fun A2 outer2 s2 H2 E2 f2 c2 hr2 => pe_cl c_word_depths hr2 (by decide) rfl (passes_call (takes_of rfl rfl rfl rfl) (fun _ _ _ _ h => h)) (pa_cons (pv 11) (pa_cons (pv 12) (pa_cons (pv 10) pa_nil))))) pa_nil)))
      (pss_cons (ps_expr (pe_bm PySem.F.plainAttrs_list PySem.F.slot_list_append PySem.F.type_list_append mt_append (pv 9) (pa_cons (pe_heard c__law_heard sc__law_heard rfl (Or.inl rfl) rfl (by decide +kernel) rfl rfl (fun _ => rfl) rfl (fun g cdg s2 H2 => hds__law_heard HX hgd hr T g cdg s2 H2) rfl TX (Room.mono hr (by decide : 6 + 2 ≤ 8)) (LamX.lamS_by rfl) rfl (fun _ _ _ _ _ => rfl) (fun A2 outer2 s2 H2 E2 f2 c2 hr2 => pe_cl c_word_weight hr2 (by decide) rfl (passes_call (takes_of rfl rfl rfl rfl) (fun _ _ _ _ h => h)) (pa_cons (pv 11) (pa_cons (pv 12) pa_nil)))) pa_nil)))
      (pss_cons (ps_expr (pe_bm PySem.F.plainAttrs_list PySem.F.slot_list_append PySem.F.type_list_append mt_append (pv 9) (pa_cons (pe_heard c__law_heard sc__law_heard rfl (Or.inl rfl) rfl (by decide +kernel) rfl rfl (fun _ => rfl) rfl (fun g cdg s2 H2 => hds__law_heard HX hgd hr T g cdg s2 H2) rfl TX (Room.mono hr (by decide : 6 + 2 ≤ 8)) (LamX.lamS_by rfl) rfl (fun _ _ _ _ _ => rfl) (fun A2 outer2 s2 H2 E2 f2 c2 hr2 => pe_cl c_is_high_word hr2 (by decide) rfl (passes_call (takes_of rfl rfl rfl rfl) (fun _ _ _ _ h => h)) (pa_cons (pv 11) (pa_cons (pv 12) pa_nil)))) pa_nil)))
      (pss_one (ps_if (pt_cmpR (op_neD hr.units) (pv 9) (pe_op op_rep (pe_lst (pa_cons (pv 8) pa_nil)) pe_int) (nomark _)) (pss_one (ps_ret pe_bl)) pss_nil))))))))
      (pss_cons (ps_set (i := 9) sc__law_errors_right.nd rfl (Or.inl rfl) (pe_lst (pa_cons (pe_heard c__law_heard sc__law_heard rfl (Or.inl rfl) rfl (by decide +kernel) rfl rfl (fun _ => rfl) rfl (fun g cdg s2 H2 => hds__law_heard HX hgd hr T g cdg s2 H2) rfl TX (Room.mono hr (by decide : 6 + 2 ≤ 8)) (LamX.lamS_by rfl) rfl (fun _ _ _ _ _ => rfl) (fun A2 outer2 s2 H2 E2 f2 c2 hr2 => pe_cl c_lower_word hr2 (by decide) rfl (passes_call (takes_of rfl rfl rfl rfl) (fun _ _ _ _ h => h)) (pa_cons (pv 1) (pa_cons (pv 2) (pa_cons (pv 10) pa_nil))))) pa_nil)))
      (pss_cons (ps_expr (pe_bm PySem.F.plainAttrs_list PySem.F.slot_list_append PySem.F.type_list_append mt_append (pv 9) (pa_cons (pe_heard c__law_heard sc__law_heard rfl (Or.inl rfl) rfl (by decide +kernel) rfl rfl (fun _ => rfl) rfl (fun g cdg s2 H2 => hds__law_heard HX hgd hr T g cdg s2 H2) rfl TX (Room.mono hr (by decide : 6 + 2 ≤ 8)) (LamX.lamS_by rfl) rfl (fun _ _ _ _ _ => rfl) (fun A2 outer2 s2 H2 E2 f2 c2 hr2 => pe_cl c_raise_word hr2 (by decide) rfl (passes_call (takes_of rfl rfl rfl rfl) (fun _ _ _ _ h => h)) (pa_cons (pv 1) (pa_cons (pv 2) (pa_cons (pv 10) pa_nil))))) pa_nil)))
      (pss_cons (ps_expr (pe_bm PySem.F.plainAttrs_list PySem.F.slot_list_append PySem.F.type_list_append mt_append (pv 9) (pa_cons (pe_heard c__law_heard sc__law_heard rfl (Or.inl rfl) rfl (by decide +kernel) rfl rfl (fun _ => rfl) rfl (fun g cdg s2 H2 => hds__law_heard HX hgd hr T g cdg s2 H2) rfl TX (Room.mono hr (by decide : 6 + 2 ≤ 8)) (LamX.lamS_by rfl) rfl (fun _ _ _ _ _ => rfl) (fun A2 outer2 s2 H2 E2 f2 c2 hr2 => pe_cl c_word_depths hr2 (by decide) rfl (passes_call (takes_of rfl rfl rfl rfl) (fun _ _ _ _ h => h)) (pa_cons (pv 1) (pa_cons (pv 2) (pa_cons (pv 10) pa_nil))))) pa_nil)))
      (pss_one (ps_ret (pe_cmpR (op_eqD hr.units) (pv 9) (pe_op op_rep (pe_lst (pa_cons (pe_tup (pa_cons pe_str (pa_cons (pe_callB (call_reprD hgd (hu65 hr)) (by rfl) T.g_repr bt_repr2 (pa_cons (pv 10) pa_nil)) pa_nil))) pa_nil)) pe_int) (nomark _))))))))))))
/-! ### law -/
abbrev s_law : Stmt := top 61
abbrev N_law : List Str := ["script", "pen", "lap", "n", "word", "k"]
theorem sc_law : FnScope N_law ["script"] (defScope s_law) := ⟨rfl, rfl, rfl, by decide +kernel, rfl, by decide +kernel, by decide +kernel⟩
def t_law (K : PySem.W.Frag) (A : Ads) (sp__law_pen : Sp) (sp__law_draw : Sp) (sp__law_word_right : Sp) (sp__law_joined_right : Sp) (sp__law_errors_right : Sp) : TS :=
    (tSeq (tAsg (tCall sp__law_pen [] E0 (tCons (tVar 0) tNil)) (gName 1))
    (tSeq (tFor (iRng1 (tCons (tC (.int 3)) tNil)) (gName 2) (tSeq (tAsg (tOp rAddI (tC (.int 1)) (tCall sp__law_draw [] E0 (tCons (tVar 1) (tCons (tC (.int 5)) tNil)))) (gName 3))
    (tSeq (tAsg (tLc (iRng1 (tCons (tCall sp__law_draw [] E0 (tCons (tVar 1) (tCons (tC (.int 16)) tNil))) tNil)) (gName 5) tYes (tCall sp__law_draw [] E0 (tCons (tVar 1) (tCons (tOp rAddI (tVar 3) (tC (.int 1))) tNil))) [5]) (gName 4))
    (tIfS (tOr (tNot (tB (tCall sp__law_word_right [] E0 (tCons (tVar 1) (tCons (tVar 3) (tCons (tVar 4) tNil)))))) (tNot (tB (tCall sp__law_joined_right [] E0 (tCons (tVar 1) (tCons (tVar 3) tNil)))))) (tRet (tC (.bl false))) tNext))))
    (tRet (tCall sp__law_errors_right [] E0 (tCons (tVar 1) (tCons (tVar 3) (tCons (tVar 4) tNil)))))))
theorem ok_law {P : Program} {w : World} {K : PySem.W.Frag} {mg : Str → Option Value} {base : Heap} {A : Ads} {sp__law_pen : Sp} {sp__law_draw : Sp} {sp__law_word_right : Sp} {sp__law_joined_right : Sp} {sp__law_errors_right : Sp} {sp : Sp} {f : Addr} {fd : FuncData} (F : Fun K "law" "law" s_law f fd) (T : Tx K mg A) (c__law_pen : Cl P w K mg base CX0 1 "_law_pen" ["script"] sp__law_pen) (c__law_draw : Cl P w K mg base CX0 1 "_law_draw" ["pen", "many"] sp__law_draw) (c__law_word_right : Cl P w K mg base CX0 7 "_law_word_right" ["pen", "n", "word"] sp__law_word_right) (c__law_joined_right : Cl P w K mg base CX0 7 "_law_joined_right" ["pen", "n"] sp__law_joined_right) (c__law_errors_right : ClG P w K mg base 9 "_law_errors_right" ["pen", "n", "word"] sp__law_errors_right)
    (hn : ∀ vs H Q E, sp vs H Q E → vs.length = 1) (hp : ∀ vs H Q E, sp vs H Q E → t_law K A sp__law_pen sp__law_draw sp__law_word_right sp__law_joined_right sp__law_errors_right { nx := fun _ H' => Q .non H', rt := Q } (L2.start N_law vs) H) : FnOkG P w K mg base 10 f fd ["script"] sp := by
  refine DL.Fun.okG F sc_law hn (fun cdv A0 outer s H vs Q E hcd hfc hgd hr h => ⟨t_law K A sp__law_pen sp__law_draw sp__law_word_right sp__law_joined_right sp__law_errors_right, ?_, hp vs H Q E h⟩)
  exact (pss_cons (ps_set (i := 1) sc_law.nd rfl (Or.inr rfl) (pe_cl c__law_pen hr (by decide) rfl pass0 (pa_cons (pv 0) pa_nil)))
      (pss_cons (ps_for PassesOwn.never rfl (pi_range1 (by rfl) T.g_range (pa_cons pe_int pa_nil)) (pg_name (i := 2) sc_law.nd rfl (Or.inl rfl)) (pss_cons (ps_set (i := 3) sc_law.nd rfl (Or.inr rfl) (pe_op op_add pe_int (pe_cl c__law_draw hr (by decide) rfl pass0 (pa_cons (pv 1) (pa_cons pe_int pa_nil)))))
      (pss_cons (ps_setLc (i := 4) (own := [("k", 5)]) (g := (gName 5)) (tt := tYes) (te := (tCall sp__law_draw [] E0 (tCons (tVar 1) (tCons (tOp rAddI (tVar 3) (tC (.int 1))) tNil)))) rfl sc_law.nd rfl rfl (sw_true rfl rfl rfl (by decide +kernel)) (pi_range1 (by rfl) T.g_range (pa_cons (pe_cl c__law_draw hr (by decide) rfl pass0 (pa_cons (pv 1) (pa_cons pe_int pa_nil))) pa_nil)) (blkOk_by (N := N_law) (sc := (defScope s_law)) (own := [("k", 5)]) (by decide +kernel)) (fun _ _ _ _ _ => (pg_name (i := 5) sc_law.nd rfl (Or.inl rfl))) (fun _ _ _ _ _ => pts_nil) (fun _ _ _ _ _ => (pe_cl c__law_draw hr (by decide) rfl pass0 (pa_cons (pv 1) (pa_cons (pe_op op_add (pv 3) pe_int) pa_nil)))))
      (pss_one (ps_if (PW.pt (pw_or (pt_not (pt_val (pe_cl c__law_word_right hr (by decide) rfl pass0 (pa_cons (pv 1) (pa_cons (pv 3) (pa_cons (pv 4) pa_nil)))))) (pw_or1 (pt_not (pt_val (pe_cl c__law_joined_right hr (by decide) rfl pass0 (pa_cons (pv 1) (pa_cons (pv 3) pa_nil)))))))) (pss_one (ps_ret pe_bl)) pss_nil)))))
      (pss_one (ps_ret (pe_clG hgd c__law_errors_right hr (by decide) rfl (pa_cons (pv 1) (pa_cons (pv 3) (pa_cons (pv 4) pa_nil))))))))

end P75
set_option Elab.async false
set_option linter.all false
set_option maxRecDepth 100000
set_option maxHeartbeats 4000000
namespace P75
open PySem L2 Evl DL RZ
local macro_rules | `(tactic| walk_at "wx") => `(tactic| first | (refine wpe_var rfl rfl ?_) | (refine wpe_int ?_) | (refine wpe_str ?_) | (refine wpe_non ?_) | (refine wpe_bl ?_) | (refine wpe_ty ?_) | (refine wpe_ref ?_) | with_reducible refine wpe_add ?_ | with_reducible refine wpe_sub ?_ | with_reducible refine wpe_mul ?_ | with_reducible refine wpe_mod ?_ | with_reducible refine wpe_fdiv ?_ | with_reducible refine wpe_pow ?_ | with_reducible refine wpe_lt ?_ | with_reducible refine wpe_le ?_ | with_reducible refine wpe_gt ?_ | with_reducible refine wpe_ge ?_ | with_reducible refine wpe_eqS ?_ | with_reducible refine wpe_neS ?_ | with_reducible refine wpe_neg ?_ | with_reducible refine wpe_chainLeLt ?_ | with_reducible refine wpe_chainLeLe ?_ | with_reducible refine wpe_eqD ?_ | with_reducible refine wpe_neD ?_ | with_reducible refine wpe_isNn ?_ | with_reducible refine wpe_notNn ?_ | with_reducible refine wpe_inI ?_ | with_reducible refine wpe_if ?_ | with_reducible refine wpe_andV ?_ | with_reducible refine wpe_orV ?_ | with_reducible refine wpe_notV ?_ | with_reducible refine wpe_ix ?_ | with_reducible refine wpe_slL ?_ | with_reducible refine wpe_slA ?_ | with_reducible refine wpe_cat ?_ | with_reducible refine wpe_catA ?_ | with_reducible refine wpe_rep ?_ | with_reducible refine wpe_isiR ?_ | (refine wpe_isiI (by simp) ?_) | with_reducible refine wpe_len ?_ | with_reducible refine wpe_listOf ?_ | with_reducible refine wpe_tupleOf ?_ | with_reducible refine wpe_all ?_ | with_reducible refine wpe_any ?_ | with_reducible refine wpe_sum ?_ | with_reducible refine wpe_max ?_ | with_reducible refine wpe_sortedI ?_ | with_reducible refine wpe_intOf ?_ | with_reducible refine wpe_isi ?_ | with_reducible refine wpe_count ?_ | with_reducible refine wpe_pop ?_ | with_reducible refine wpe_tup ?_ | with_reducible refine wpe_lst ?_ | (refine wpa_nil ?_) | with_reducible refine wpa_cons ?_ | (refine wpo_none ?_) | with_reducible refine wpo_some ?_ | with_reducible refine wpt_test ?_ | with_reducible refine wpt_B ?_ | with_reducible refine wpt_and ?_ | with_reducible refine wpt_or ?_ | with_reducible refine wpt_not ?_ | (refine wpt_yes ?_) | with_reducible refine wps_seq ?_ | with_reducible refine wps_set ?_ | with_reducible refine wps_ret ?_ | with_reducible refine wps_if ?_ | with_reducible refine wps_par ?_ | with_reducible refine wps_app ?_ | (refine wps_next ?_) | (refine wps_brk ?_) | (refine wps_cont ?_) | (refine wps_retN ?_) | with_reducible refine wps_drop ?_ | with_reducible refine wps_asg ?_ | with_reducible refine wpe_fld (by assumption) (by simp) ?_)
local macro_rules | `(tactic| walk_at "w") => `(tactic| (walk_at "wx"; repeat (walk_at "wx")))
local macro_rules | `(tactic| walk_at "gx") => `(tactic| first | (walk_at "wx") | with_reducible refine wpe_cA1 ?_ | with_reducible refine wpe_cA2 ?_ | with_reducible refine wpe_cA3 ?_ | with_reducible refine wpe_cB1 ?_ | with_reducible refine wpe_cB2 ?_ | with_reducible refine wpe_cB3 ?_ | with_reducible refine wpe_cB4 ?_ | with_reducible refine wpe_cB5 ?_ | (refine wpe_cN0 rfl ?_) | (refine wpe_cN1 rfl ?_) | (refine wpe_cN2 rfl ?_) | (refine wpe_cN3 rfl ?_) | (refine ⟨_, rfl, ?_⟩) | (refine ⟨_, _, rfl, rfl, ?_⟩) | (refine ⟨_, _, _, rfl, rfl, rfl, ?_⟩) | (refine ⟨_, _, _, _, rfl, rfl, rfl, rfl, rfl, ?_⟩) | (refine ⟨_, _, _, _, rfl, rfl, rfl, rfl, ?_⟩) | (refine ⟨_, _, _, _, _, rfl, rfl, rfl, rfl, rfl, ?_⟩) | (refine ⟨_, _, rfl, ?_⟩))
local macro_rules | `(tactic| walk_at "g") => `(tactic| (walk_at "gx"; repeat (walk_at "gx")))
/-! ### what the law hears of bad questions -/
section
variable {C : Cn} {A : Ads} {T : List (Addr × Str)} {Pt : Addr} {q : Str} {s : S} {Φ : W → S → Prop} {dn dw di due : PyData} {e : Er} {i j k : Nat}
theorem outc_hear {hs : List HS} {r : Except Er PyData} (he : r = .error e) (ho : heardOk hs e fun d => d = due) (hk : Φ (.d due) s) : outc r (fun d => Φ (.d (.tuple [.str "ok", d])) s) fun er => heardOk hs er fun d => Φ (.d d) s := by
  rw [he]
  obtain ⟨h, fl, a1, a2, a3, a4⟩ := ho
  exact ⟨h, fl, a1, a2, a3, by rw [a4]; exact hk⟩
theorem wpe_hA {f : List Int → Int → PyData} (hpk : C.pk = pkD T) (hP : (Pt, q) ∈ T) (HC : HsC C.K C.cl (hs__law_heard A)) (i1 : s.sl[i]? = some (.d dn)) (i2 : s.sl[j]? = some (.d dw)) (i3 : s.sl[k]? = some (.d di)) (tn : ty dn) (tw : ty dw) (ti : ty di)
    (hr : ∀ row, rowOf dw = some row → ∀ x ∈ row, ty x) (he : askedF dn dw di = .error e) (ho : heardOk (hs__law_heard A) e fun d => d = due) (hk : Φ (.d due) s) :
    wpe C (LamX.tLam3 Pt T (TTh C.K (hs__law_heard A)) fun E => tCall (spP C.K C.cl (W_ask f)) [] E (tCons (tVar i) (tCons (tVar j) (tCons (tVar k) tNil)))) s Φ := by
  refine wpe_lam hpk hP HC (wpa_cons (wpe_var i1 rfl (wpa_cons (wpe_var i2 rfl (wpa_cons (wpe_var i3 rfl (wpa_nil ⟨[dn, dw, di], rfl, dn, dw, di, rfl, tn, tw, ti, hr, ?_⟩)))))))
  exact outc_hear (by rw [askO, he]; rfl) ho hk
theorem wpe_hW {f : Nat → List Int → PyData} (hpk : C.pk = pkD T) (hP : (Pt, q) ∈ T) (HC : HsC C.K C.cl (hs__law_heard A)) (i1 : s.sl[i]? = some (.d dn)) (i2 : s.sl[j]? = some (.d dw)) (tn : ty dn) (tw : ty dw)
    (hr : ∀ row, rowOf dw = some row → ∀ x ∈ row, ty x) (he : askedW dn dw = .error e) (ho : heardOk (hs__law_heard A) e fun d => d = due) (hk : Φ (.d due) s) :
    wpe C (LamX.tLam3 Pt T (TTh C.K (hs__law_heard A)) fun E => tCall (spP C.K C.cl (W_wrd f)) [] E (tCons (tVar i) (tCons (tVar j) tNil))) s Φ := by
  refine wpe_lam hpk hP HC (wpa_cons (wpe_var i1 rfl (wpa_cons (wpe_var i2 rfl (wpa_nil ⟨[dn, dw], rfl, dn, dw, rfl, tn, tw, hr, ?_⟩)))))
  exact outc_hear (by rw [wrdO, he]; rfl) ho hk
end
theorem tells_num {A : Ads} {d : PyData} (h : showOk d) : heardOk (hs__law_heard A) (eNum d) fun x => x = .tuple [.str "number", .str "n", .str d.shown] :=
  ⟨_, [("value", d), ("what", .str "n")], rfl, rfl, by
    intro p hp
    rcases List.mem_cons.mp hp with rfl | hp
    · rfl
    · rcases List.mem_cons.mp hp with rfl | hp
      · exact ⟨d, rfl, h⟩
      · exact (List.not_mem_nil hp).elim, rfl⟩
theorem tells_let {A : Ads} {d : PyData} : heardOk (hs__law_heard A) (eLet d) fun x => x = .tuple [.str "letters", d] :=
  ⟨_, [("index", d)], rfl, rfl, by
    intro p hp
    rcases List.mem_cons.mp hp with rfl | hp
    · rfl
    · exact (List.not_mem_nil hp).elim, rfl⟩
theorem tells_col {A : Ads} {d : PyData} (h : showOk d) : heardOk (hs__law_heard A) (eCol d) fun x => x = .tuple [.str "colour", .str d.shown] :=
  ⟨_, [("value", d)], rfl, rfl, by
    intro p hp
    rcases List.mem_cons.mp hp with rfl | hp
    · exact ⟨d, rfl, h⟩
    · exact (List.not_mem_nil hp).elim, rfl⟩
def szs : List PyData := [.int 0, .int 6, .int (-1), .none, .bool true, .str "2"]
def odds : List PyData := [.none, .int 3, .str "01", .bool true, .list (List.replicate 41 (.int 0))]
def bads (n : Int) : List PyData := [.int (n + 1), .int (-1), .none, .bool true, .str "0"]
structure GoodE (A : Ads) (dn dw due : PyData) : Prop where
  tn : ty dn
  tw : ty dw
  hr : ∀ row, rowOf dw = some row → ∀ x ∈ row, ty x
  e : ∃ e, (∀ di, askedF dn dw di = .error e) ∧ askedW dn dw = .error e ∧ heardOk (hs__law_heard A) e fun d => d = due
  pl : pl 10 due = true
theorem sz_ok {d : PyData} (h : d ∈ szs) : ty d ∧ okN d = false ∧ showOk d ∧ PyData.strOk d.shown = true := by
  simp only [szs, List.mem_cons, List.not_mem_nil, or_false] at h
  rcases h with rfl | rfl | rfl | rfl | rfl | rfl <;> refine ⟨rfl, by decide, ⟨?_, ?_, ?_⟩, ?_⟩ <;> decide +kernel
theorem good_size {A : Ads} {d o : PyData} (h : d ∈ szs) (to : ty o) (ho : ∀ row, rowOf o = some row → ∀ x ∈ row, ty x) : GoodE A d o (.tuple [.str "number", .str "n", .str d.shown]) := by
  obtain ⟨h1, h2, h3, h4⟩ := sz_ok h
  refine ⟨h1, to, ho, ⟨eNum d, fun di => needAsked_err ?_, ?_, tells_num h3⟩, pl_tuple (n := 9) fun x hx => by
    simp only [List.mem_cons, List.not_mem_nil, or_false] at hx
    rcases hx with rfl | rfl | rfl
    · show PyData.strOk "number" = true
      decide +kernel
    · show PyData.strOk "n" = true
      decide +kernel
    · show PyData.strOk d.shown = true
      exact h4⟩
  · unfold needAsked
    cases d <;> simp [h2]
  · unfold askedW
    cases d <;> simp [h2]
theorem odd_ok {n : Int} {d : PyData} (h : d ∈ odds) : ty d ∧ (∀ row, rowOf d = some row → ∀ x ∈ row, ty x) ∧ needLetters n d = .error (eLet .none) := by
  simp only [odds, List.mem_cons, List.not_mem_nil, or_false] at h
  rcases h with rfl | rfl | rfl | rfl | rfl
  · exact ⟨rfl, (fun _ z => nomatch z), rfl⟩
  · exact ⟨rfl, (fun _ z => nomatch z), rfl⟩
  · exact ⟨rfl, (fun _ z => nomatch z), rfl⟩
  · exact ⟨rfl, (fun _ z => nomatch z), rfl⟩
  · refine ⟨rfl, fun row z x hx => ?_, rfl⟩
    cases z
    rw [List.eq_of_mem_replicate hx]
    rfl
theorem good_let {A : Ads} {n : Int} {o ix : PyData} (h1 : 1 ≤ n) (h5 : n ≤ 5) (to : ty o) (ho : ∀ row, rowOf o = some row → ∀ x ∈ row, ty x) (hl : needLetters n o = .error (eLet ix)) (hp : pl 9 ix = true) : GoodE A (.int n) o (.tuple [.str "letters", ix]) := by
  have ok : okN (.int n) = true := by simp [okN, h1, h5]
  refine ⟨rfl, to, ho, ⟨eLet ix, fun di => needAsked_err ?_, ?_, tells_let⟩, ?_⟩
  · simp only [needAsked, ok, if_true, hl]
  · simp only [askedW, ok, if_true, hl]
  · refine pl_tuple (n := 9) fun d hd => ?_
    rcases List.mem_cons.mp hd with rfl | hd
    · show PyData.strOk "letters" = true
      decide +kernel
    · have : d = ix := by simpa using hd
      rw [this]
      exact hp
/-! ### _law_errors_right -/
def W_errors : WfN := fun ds c Φ => ∃ (n : Nat) (w : List Int), ds = [.int (n : Int), .list (iL w)] ∧ 1 ≤ n ∧ n ≤ 5 ∧ w.length ≤ 16 ∧ (∀ x ∈ w, 0 ≤ x ∧ x < (n : Int) + 1) ∧ c + 10 < 1000000000 ∧ ∀ c', c ≤ c' → c' ≤ c + 10 → Φ (.bool true) c'
theorem findIdx_mid {α : Type} {p : α → Bool} {l1 l2 : List α} {b : α} (h1 : ∀ x ∈ l1, p x = false) (h2 : p b = true) : (l1 ++ b :: l2).findIdx? p = some l1.length := by
  induction l1 with
  | nil => simp [List.findIdx?_cons, h2]
  | cons x l ih =>
    have hx := h1 x List.mem_cons_self
    have := ih fun y hy => h1 y (List.mem_cons_of_mem _ hy)
    simp [List.findIdx?_cons, hx, this]
theorem bad_ok {n : Int} {d : PyData} (h : d ∈ bads n) : ty d ∧ isPt (n + 1) d = false := by
  simp only [bads, List.mem_cons, List.not_mem_nil, or_false] at h
  rcases h with rfl | rfl | rfl | rfl | rfl <;> refine ⟨rfl, ?_⟩ <;> simp [isPt]
theorem isPt_iL {n : Int} {w : List Int} (hw : ∀ x ∈ w, 0 ≤ x ∧ x < n) : ∀ d ∈ iL w, isPt n d = true := fun d hd => by
  obtain ⟨x, hx, rfl⟩ := List.mem_map.mp hd
  have := hw x hx
  simp [isPt, this.1, this.2]
theorem ty_iL {w : List Int} : ∀ d ∈ iL w, ty d := fun d hd => by
  obtain ⟨x, hx, rfl⟩ := List.mem_map.mp hd
  rfl
theorem wrong_ok {n : Int} {w : List Int} {b : PyData} {k : Nat} (hw : ∀ x ∈ w, 0 ≤ x ∧ x < n + 1) (hl : w.length ≤ 16) (hk : k ≤ w.length) (hb : b ∈ bads n) :
    needLetters n (.list ((iL w).take k ++ [b] ++ (iL w).drop k ++ [PyData.none])) = .error (eLet (.int (k : Int))) ∧ ∀ x ∈ (iL w).take k ++ [b] ++ (iL w).drop k ++ [PyData.none], ty x := by
  obtain ⟨b1, b2⟩ := bad_ok hb
  have hlen : (iL w).length = w.length := by simp [iL]
  constructor
  · have e : ((iL w).take k ++ [b] ++ (iL w).drop k ++ [PyData.none]).findIdx? (fun x => !isPt (n + 1) x) = some k := by
      have := findIdx_mid (p := fun x => !isPt (n + 1) x) (l1 := (iL w).take k) (l2 := (iL w).drop k ++ [PyData.none]) (b := b) (fun x hx => by simp [isPt_iL hw x (List.mem_of_mem_take hx)]) (by simp [b2])
      rw [List.length_take, hlen, Nat.min_eq_left hk] at this
      rw [← this]
      congr 1
      simp
    have l40 : ¬ 40 < ((iL w).take k ++ [b] ++ (iL w).drop k ++ [PyData.none]).length := by
      simp [hlen]
      omega
    unfold needLetters
    simp only [rowOf]
    rw [if_neg l40, e]
  · intro x hx
    simp only [List.mem_append, List.mem_cons, List.not_mem_nil, or_false] at hx
    rcases hx with ((h | rfl) | h) | rfl
    · exact ty_iL x (List.mem_of_mem_take h)
    · exact b1
    · exact ty_iL x (List.mem_of_mem_drop h)
    · rfl
theorem col_ok {n : Nat} {d : PyData} (h1 : 1 ≤ n) (h5 : n ≤ 5) (h : d ∈ oddP (n : Int)) : ty d ∧ isPt (n : Int) d = false ∧ showOk d ∧ PyData.strOk d.shown = true := by
  have : n = 1 ∨ n = 2 ∨ n = 3 ∨ n = 4 ∨ n = 5 := by omega
  simp only [oddP, List.mem_cons, List.not_mem_nil, or_false] at h
  rcases this with rfl | rfl | rfl | rfl | rfl <;> rcases h with rfl | rfl | rfl | rfl | rfl | rfl <;> refine ⟨rfl, by decide, ⟨?_, ?_, ?_⟩, ?_⟩ <;> decide +kernel
theorem asked_col {n : Nat} {w : List Int} {d : PyData} (h1 : 1 ≤ n) (h5 : n ≤ 5) (hw : ∀ x ∈ w, 0 ≤ x ∧ x < (n : Int) + 1) (hl : w.length ≤ 16) (hd : isPt (n : Int) d = false) : askedF (.int n) (.list (iL w)) d = .error (eCol d) := by
  have ok : okN (.int (n : Int)) = true := by
    simp [okN]
    omega
  have hlen : (iL w).length = w.length := by simp [iL]
  have e : needLetters n (.list (iL w)) = .ok (.tuple (iL w)) := by
    unfold needLetters
    simp only [rowOf]
    rw [if_neg (by omega)]
    have : (iL w).findIdx? (fun x => !isPt ((n : Int) + 1) x) = none := by
      rw [List.findIdx?_eq_none_iff]
      intro x hx
      simp [isPt_iL hw x hx]
    rw [this]
  refine needAsked_err ?_
  simp only [needAsked, ok, if_true, e, hd]
  rfl
theorem put_last {sl : List W} {ms : List (Option (List W))} {u : Option (List W)} {c : Nat} {v : List W} : S.put ⟨sl, ms ++ [u], c⟩ ms.length v = ⟨sl, ms ++ [some v], c⟩ := by simp [S.put]
theorem pl_up : ∀ {n m : Nat} {d : PyData}, pl n d = true → n ≤ m → pl m d = true := fun {n} => by
  induction n with
  | zero =>
    intro m d h hm
    cases d <;> cases m <;> first | rfl | exact h | (simp [pl] at h)
  | succ n ih =>
    intro m d h hm
    obtain ⟨m, rfl⟩ : ∃ m', m = m' + 1 := ⟨m - 1, by omega⟩
    cases d <;> first | rfl | exact h | (simp [pl] at h; done) | (simp only [pl, List.all_eq_true] at h ⊢; exact fun x hx => ih (h x hx) (by omega))
theorem get_last {ms : List (Option (List W))} {u : List W} : (ms ++ [some u])[ms.length]? = some (some u) := by simp
theorem w_errors_right {C : Cn} {A : Ads} {T : List (Addr × Str)} {Pt : Addr} {q : Str} {ds : List PyData} {c : Nat} {Φ : PyData → Nat → Prop} (hpk : C.pk = pkD T) (hP : (Pt, q) ∈ T) (HC : HsC C.K C.cl (hs__law_heard A)) (h : W_errors ds c Φ) :
    wps C (t__law_errors_right C.K A T Pt (spN C.K C.cl C.pk W_pick) (spN C.K C.cl C.pk W_draw) (spN C.K C.cl C.pk W_odd_point) (spP C.K C.cl W_lower_word) (spP C.K C.cl W_raise_word) (spP C.K C.cl W_word_depths) (spP C.K C.cl W_word_weight) (spP C.K C.cl W_is_high_word)) (start0 (.pen :: ds.map .d) 13 c) (DN Φ) := by
  obtain ⟨n, w, rfl, h1, h5, hl, hw, hc, h⟩ := h
  have hlen : (iL w).length = w.length := by simp [iL]
  unfold t__law_errors_right
  -- size, at
  refine wps_seq (wps_par (wpa_cons (wpe_cN1 rfl ?_)))
  walk_at "w"
  refine ⟨_, rfl, ?_⟩
  walk_at "w"
  refine ⟨szs, rfl, by simp [szs], _, rfl, _, rfl, by simp [szs], by simp [szs], by show c < 1000000000; omega, fun size hs => ?_⟩
  refine wpa_cons (wpe_cN1 rfl ?_)
  walk_at "w"
  refine ⟨_, _, rfl, rfl, ?_⟩
  walk_at "w"
  refine ⟨_, _, rfl, rfl, _, rfl, _, rfl, by omega, by simp [hlen]; omega, by show c + 1 < 1000000000; omega, fun at0 ha0 ha1 => wpa_nil ⟨_, _, rfl, ?_⟩⟩
  obtain ⟨k, rfl⟩ : ∃ k : Nat, at0 = (k : Int) := ⟨at0.toNat, by omega⟩
  have hk : k ≤ w.length := by
    simp [hlen] at ha1
    omega
  show wps C _ ⟨[.pen, .d (.int (n : Int)), .d (.list (iL w)), .d size, .d (.int (k : Int)), .no, .no, .no, .no, .no, .no, .no, .no], [], c + 1 + 1⟩ _
  -- wrong
  refine wps_seq (wps_set ?_)
  walk_at "w"
  refine ⟨_, rfl, iL w, rfl, ?_⟩
  rw [cut_to]
  refine wpe_lst (wpa_cons (wpe_cN1 rfl ?_))
  walk_at "w"
  refine ⟨_, _, rfl, rfl, ?_⟩
  walk_at "w"
  refine ⟨_, rfl, ?_⟩
  walk_at "w"
  refine ⟨bads n, rfl, by simp [bads], _, rfl, _, rfl, by simp [bads], by simp [bads], by show c + 1 + 1 < 1000000000; omega, fun bad hb => wpa_nil ⟨[bad], rfl, by simp, _, _, rfl, rfl, by simp [hlen]; omega, ?_⟩⟩
  walk_at "w"
  refine ⟨_, rfl, ?_⟩
  walk_at "w"
  refine ⟨iL w, rfl, ?_⟩
  rw [cut_from]
  refine ⟨_, _, rfl, rfl, by simp [hlen]; omega, ?_⟩
  walk_at "w"
  refine ⟨[PyData.none], rfl, by simp, _, _, rfl, rfl, by simp [hlen]; omega, ?_⟩
  obtain ⟨hwr, twr⟩ := wrong_ok hw hl hk hb
  generalize (iL w).take k ++ [bad] ++ (iL w).drop k ++ [PyData.none] = wr at hwr twr ⊢
  show wps C _ ⟨[.pen, .d (.int (n : Int)), .d (.list (iL w)), .d size, .d (.int (k : Int)), .d (.list wr), .no, .no, .no, .no, .no, .no, .no], [], c + 1 + 1 + 1⟩ _
  -- odd, colour
  refine wps_seq (wps_asg (wpe_tup (wpa_cons (wpe_cN1 rfl ?_))))
  walk_at "w"
  refine ⟨[PyData.int 0], rfl, by simp, ?_⟩
  walk_at "w"
  refine ⟨_, _, rfl, rfl, by omega, by omega, by simp, ?_⟩
  walk_at "w"
  refine ⟨odds, rfl, by simp [odds], _, rfl, _, rfl, by simp [odds], by simp [odds], by show c + 1 + 1 + 1 < 1000000000; omega, fun odd ho => ?_⟩
  refine wpa_cons (wpe_cN1 rfl ?_)
  walk_at "w"
  refine ⟨_, rfl, _, rfl, by show c + 1 + 1 + 1 + 1 < 1000000000; omega, fun col hcl => wpa_nil ⟨[odd, col], rfl, by simp, wpg_tup2 ?_⟩⟩
  show wps C _ ⟨[.pen, .d (.int (n : Int)), .d (.list (iL w)), .d size, .d (.int (k : Int)), .d (.list wr), .d odd, .no, .no, .no, .d col, .no, .no], [], c + 5⟩ _
  obtain ⟨z1, z2, z3, z4⟩ := sz_ok hs
  obtain ⟨o1, o2, o3⟩ := odd_ok (n := (n : Int)) ho
  obtain ⟨x1, x2, x3, x4⟩ := col_ok h1 h5 hcl
  -- some
  refine wps_seq (wps_set ?_)
  refine wpe_lst (wpa_cons (wpe_tup ?_))
  walk_at "w"
  refine wpe_repr ?_
  walk_at "w"
  refine ⟨_, rfl, z3, wpa_nil ⟨[.str "number", .str "n", .str size.shown], rfl, by simp, wpa_nil ⟨[size, odd, .tuple [.str "number", .str "n", .str size.shown]], rfl, by simp, ?_⟩⟩⟩
  walk_at "w"
  refine ⟨[.str "letters", .int (k : Int)], rfl, by simp, wpa_nil ⟨[.int (n : Int), .list wr, .tuple [.str "letters", .int (k : Int)]], rfl, by simp, ?_⟩⟩
  walk_at "w"
  refine ⟨[.str "letters", .none], rfl, by simp, wpa_nil ⟨[.int (n : Int), odd, .tuple [.str "letters", .none]], rfl, by simp, wpa_nil ⟨[.tuple [size, odd, .tuple [.str "number", .str "n", .str size.shown]], .tuple [.int (n : Int), .list wr, .tuple [.str "letters", .int (k : Int)]], .tuple [.int (n : Int), odd, .tuple [.str "letters", .none]]], rfl, by simp, ?_⟩⟩⟩
  have g0 : GoodE A size odd (.tuple [.str "number", .str "n", .str size.shown]) := good_size hs o1 o2
  have g1 : GoodE A (.int (n : Int)) (.list wr) (.tuple [.str "letters", .int (k : Int)]) := good_let (by omega) (by omega) rfl (fun row e => by cases e; exact twr) hwr pl_int
  have g2 : GoodE A (.int (n : Int)) odd (.tuple [.str "letters", .none]) := good_let (by omega) (by omega) o1 o2 o3 pl_none
  generalize (PyData.tuple [.str "number", .str "n", .str size.shown]) = u0 at g0 ⊢
  generalize (PyData.tuple [.str "letters", .int (k : Int)]) = u1 at g1 ⊢
  generalize (PyData.tuple [.str "letters", .none]) = u2 at g2 ⊢
  refine wps_seq ?_
  generalize hits : ([.tuple [size, odd, u0], .tuple [.int (n : Int), .list wr, u1], .tuple [.int (n : Int), odd, u2]] : List PyData) = its
  refine wps_for (items := its)
    (fun j s => ∃ (w8 w9 w11 w12 : W) (ms : List (Option (List W))), s = ⟨[.pen, .d (.int (n : Int)), .d (.list (iL w)), .d size, .d (.int (k : Int)), .d (.list wr), .d odd, .d (.list its), w8, w9, .d col, w11, w12], ms, c + 5⟩) ?_ ?_ ?_
  · refine wpi_list (wpe_var rfl rfl ⟨_, rfl, rfl, _, _, _, _, _, rfl⟩)
  · rintro j d s1 hd ⟨w8, w9, w11, w12, ms, rfl⟩
    obtain ⟨dn, dw, due, rfl, gd⟩ : ∃ dn dw due, d = .tuple [dn, dw, due] ∧ GoodE A dn dw due := by
      subst hits
      match j, hd with
      | 0, hd => cases hd; exact ⟨_, _, _, rfl, g0⟩
      | 1, hd => cases hd; exact ⟨_, _, _, rfl, g1⟩
      | 2, hd => cases hd; exact ⟨_, _, _, rfl, g2⟩
    obtain ⟨e, e1, e2, e3⟩ := gd.e
    refine wpg_tup3 ?_
    refine wps_seq (wps_set (wpe_lstM (wpa_cons (wpe_hA hpk hP HC rfl rfl rfl gd.tn gd.tw x1 gd.hr (e1 _) e3 (wpa_nil ⟨by simp, ?_⟩)))))
    show wps C _ ⟨[.pen, .d (.int (n : Int)), .d (.list (iL w)), .d size, .d (.int (k : Int)), .d (.list wr), .d odd, .d (.list its), .d due, .m ms.length, .d col, .d dn, .d dw], ms ++ [some [.d due]], c + 5⟩ _
    refine wps_seq (wps_app (wpe_var rfl rfl ⟨_, _, rfl, get_last, wpe_hA hpk hP HC rfl rfl rfl gd.tn gd.tw x1 gd.hr (e1 _) e3 ⟨_, get_last, by simp, ?_⟩⟩))
    rw [put_last]
    refine wps_seq (wps_app (wpe_var rfl rfl ⟨_, _, rfl, get_last, wpe_hA hpk hP HC rfl rfl rfl gd.tn gd.tw x1 gd.hr (e1 _) e3 ⟨_, get_last, by simp, ?_⟩⟩))
    rw [put_last]
    refine wps_seq (wps_app (wpe_var rfl rfl ⟨_, _, rfl, get_last, wpe_hW hpk hP HC rfl rfl gd.tn gd.tw gd.hr e2 e3 ⟨_, get_last, by simp, ?_⟩⟩))
    rw [put_last]
    refine wps_seq (wps_app (wpe_var rfl rfl ⟨_, _, rfl, get_last, wpe_hW hpk hP HC rfl rfl gd.tn gd.tw gd.hr e2 e3 ⟨_, get_last, by simp, ?_⟩⟩))
    rw [put_last]
    refine wps_frz (ds := [due, due, due, due, due]) ms.length (by simp) ?_
    simp only [S.frz, List.map_cons, List.map_nil, W.frz]
    rw [if_pos trivial]
    generalize List.map (Option.map (List.map (W.frz ms.length [due, due, due, due, due]))) ((ms ++ [some ([W.d due] ++ [W.d due] ++ [W.d due] ++ [W.d due] ++ [W.d due])]).set ms.length none) = ms2
    have p5 : pl 20 (.list [due, due, due, due, due]) = true := pl_list (n := 19) fun x hx => by
      have : x = due := by simpa using hx
      rw [this]
      exact pl_up gd.pl (by decide)
    refine wps_if (wpt_test (wpe_neD ?_))
    walk_at "w"
    refine ⟨[due], rfl, by simp, ?_⟩
    walk_at "w"
    refine ⟨_, _, rfl, rfl, by omega, by omega, by simp, _, _, rfl, rfl, p5, p5, _, rfl, fun e => ?_, fun _ => ?_⟩
    · exfalso
      have := eqv_self p5
      rw [show (List.replicate (Int.toNat 5) [due]).flatten = [due, due, due, due, due] from rfl, this] at e
      cases e
    · exact wps_next ⟨_, _, _, _, _, rfl⟩
  · rintro s1 ⟨w8, w9, w11, w12, ms, rfl⟩
    have ha := asked_col h1 h5 hw hl x2
    have tw : ∀ row, rowOf (.list (iL w)) = some row → ∀ x ∈ row, ty x := fun row e => by
      cases e
      exact ty_iL
    have e3 := tells_col (A := A) x3
    generalize hu : PyData.tuple [.str "colour", .str col.shown] = due at e3
    refine wps_seq (wps_set (wpe_lstM (wpa_cons (wpe_hA hpk hP HC rfl rfl rfl rfl rfl x1 tw ha e3 (wpa_nil ⟨by simp, ?_⟩)))))
    show wps C _ ⟨[.pen, .d (.int (n : Int)), .d (.list (iL w)), .d size, .d (.int (k : Int)), .d (.list wr), .d odd, .d (.list its), w8, .m ms.length, .d col, w11, w12], ms ++ [some [.d due]], c + 5⟩ _
    refine wps_seq (wps_app (wpe_var rfl rfl ⟨_, _, rfl, get_last, wpe_hA hpk hP HC rfl rfl rfl rfl rfl x1 tw ha e3 ⟨_, get_last, by simp, ?_⟩⟩))
    rw [put_last]
    refine wps_seq (wps_app (wpe_var rfl rfl ⟨_, _, rfl, get_last, wpe_hA hpk hP HC rfl rfl rfl rfl rfl x1 tw ha e3 ⟨_, get_last, by simp, ?_⟩⟩))
    rw [put_last]
    refine wps_frz (ds := [due, due, due]) ms.length (by simp) ?_
    simp only [S.frz, List.map_cons, List.map_nil, W.frz]
    rw [if_pos trivial]
    generalize List.map (Option.map (List.map (W.frz ms.length [due, due, due]))) ((ms ++ [some ([W.d due] ++ [W.d due] ++ [W.d due])]).set ms.length none) = ms2
    have p3 : pl 20 (.list [due, due, due]) = true := pl_list (n := 19) fun x hx => by
      have : x = due := by simpa using hx
      rw [this, ← hu]
      refine pl_tuple (n := 18) fun y hy => ?_
      simp only [List.mem_cons, List.not_mem_nil, or_false] at hy
      rcases hy with rfl | rfl
      · show PyData.strOk "colour" = true
        decide +kernel
      · exact x4
    refine wps_ret (wpe_eqD ?_)
    walk_at "w"
    refine wpe_repr ?_
    walk_at "w"
    refine ⟨_, rfl, x3, wpa_nil ⟨[.str "colour", .str col.shown], rfl, by simp, wpa_nil ⟨[.tuple [.str "colour", .str col.shown]], rfl, by simp, ?_⟩⟩⟩
    rw [hu]
    walk_at "w"
    refine ⟨_, _, rfl, rfl, by omega, by omega, by simp, _, _, rfl, rfl, p3, p3, ?_⟩
    rw [show (List.replicate (Int.toNat 3) [due]).flatten = [due, due, due] from rfl, eqv_self p3]
    exact ⟨_, rfl, h (c + 5) (by omega) (by omega)⟩
end P75
set_option Elab.async false
set_option linter.all false
set_option maxRecDepth 100000
set_option maxHeartbeats 4000000
namespace P75
open PySem L2 Evl DL RZ
local macro_rules | `(tactic| walk_at "wx") => `(tactic| first | (refine wpe_var rfl rfl ?_) | (refine wpe_int ?_) | (refine wpe_str ?_) | (refine wpe_non ?_) | (refine wpe_bl ?_) | (refine wpe_ty ?_) | (refine wpe_ref ?_) | with_reducible refine wpe_add ?_ | with_reducible refine wpe_sub ?_ | with_reducible refine wpe_mul ?_ | with_reducible refine wpe_mod ?_ | with_reducible refine wpe_fdiv ?_ | with_reducible refine wpe_pow ?_ | with_reducible refine wpe_lt ?_ | with_reducible refine wpe_le ?_ | with_reducible refine wpe_gt ?_ | with_reducible refine wpe_ge ?_ | with_reducible refine wpe_eqS ?_ | with_reducible refine wpe_neS ?_ | with_reducible refine wpe_neg ?_ | with_reducible refine wpe_chainLeLt ?_ | with_reducible refine wpe_chainLeLe ?_ | with_reducible refine wpe_eqD ?_ | with_reducible refine wpe_neD ?_ | with_reducible refine wpe_isNn ?_ | with_reducible refine wpe_notNn ?_ | with_reducible refine wpe_inI ?_ | with_reducible refine wpe_if ?_ | with_reducible refine wpe_andV ?_ | with_reducible refine wpe_orV ?_ | with_reducible refine wpe_notV ?_ | with_reducible refine wpe_ix ?_ | with_reducible refine wpe_slL ?_ | with_reducible refine wpe_slA ?_ | with_reducible refine wpe_cat ?_ | with_reducible refine wpe_catA ?_ | with_reducible refine wpe_rep ?_ | with_reducible refine wpe_isiR ?_ | (refine wpe_isiI (by simp) ?_) | with_reducible refine wpe_len ?_ | with_reducible refine wpe_listOf ?_ | with_reducible refine wpe_tupleOf ?_ | with_reducible refine wpe_all ?_ | with_reducible refine wpe_any ?_ | with_reducible refine wpe_sum ?_ | with_reducible refine wpe_max ?_ | with_reducible refine wpe_sortedI ?_ | with_reducible refine wpe_intOf ?_ | with_reducible refine wpe_isi ?_ | with_reducible refine wpe_count ?_ | with_reducible refine wpe_pop ?_ | with_reducible refine wpe_tup ?_ | with_reducible refine wpe_lst ?_ | (refine wpa_nil ?_) | with_reducible refine wpa_cons ?_ | (refine wpo_none ?_) | with_reducible refine wpo_some ?_ | with_reducible refine wpt_test ?_ | with_reducible refine wpt_B ?_ | with_reducible refine wpt_and ?_ | with_reducible refine wpt_or ?_ | with_reducible refine wpt_not ?_ | (refine wpt_yes ?_) | with_reducible refine wps_seq ?_ | with_reducible refine wps_set ?_ | with_reducible refine wps_ret ?_ | with_reducible refine wps_if ?_ | with_reducible refine wps_par ?_ | with_reducible refine wps_app ?_ | (refine wps_next ?_) | (refine wps_brk ?_) | (refine wps_cont ?_) | (refine wps_retN ?_) | with_reducible refine wps_drop ?_ | with_reducible refine wps_asg ?_ | with_reducible refine wpe_fld (by assumption) (by simp) ?_)
local macro_rules | `(tactic| walk_at "w") => `(tactic| (walk_at "wx"; repeat (walk_at "wx")))
local macro_rules | `(tactic| walk_at "gx") => `(tactic| first | (walk_at "wx") | with_reducible refine wpe_cA1 ?_ | with_reducible refine wpe_cA2 ?_ | with_reducible refine wpe_cA3 ?_ | with_reducible refine wpe_cB1 ?_ | with_reducible refine wpe_cB2 ?_ | with_reducible refine wpe_cB3 ?_ | with_reducible refine wpe_cB4 ?_ | with_reducible refine wpe_cB5 ?_ | (refine wpe_cN0 rfl ?_) | (refine wpe_cN1 rfl ?_) | (refine wpe_cN2 rfl ?_) | (refine wpe_cN3 rfl ?_) | (refine ⟨_, rfl, ?_⟩) | (refine ⟨_, _, rfl, rfl, ?_⟩) | (refine ⟨_, _, _, rfl, rfl, rfl, ?_⟩) | (refine ⟨_, _, _, _, rfl, rfl, rfl, rfl, rfl, ?_⟩) | (refine ⟨_, _, _, _, rfl, rfl, rfl, rfl, ?_⟩) | (refine ⟨_, _, _, _, _, rfl, rfl, rfl, rfl, rfl, ?_⟩) | (refine ⟨_, _, rfl, ?_⟩))
local macro_rules | `(tactic| walk_at "g") => `(tactic| (walk_at "gx"; repeat (walk_at "gx")))
/-! ### law -/
theorem w_law {K : PySem.W.Frag} {cl : Str → Option Addr} {A : Ads} {T : List (Addr × Str)} {vs : List V} {H : Hp} {Q : VK} {E : XK} (hsp : spLaw K T vs H Q E) :
    t_law K A (spPen K) (spN K cl (pkD T) W_draw) (spN K cl (pkD T) W_word_right) (spN K cl (pkD T) W_joined_right) (spN K cl (pkD T) W_errors) { nx := fun _ H' => Q .non H', rt := Q } (L2.start N_law vs) H := by
  refine law_ok (m := 4) (cl := cl) (E' := E) rfl hsp ?_
  generalize hC : ({ K := K, cl := cl, EX := E, Psi := fun _ => False, pk := pkD T } : Cn) = C
  have hpk : pkD T = C.pk := by rw [← hC]
  have hK : K = C.K := by rw [← hC]
  have hcl : cl = C.cl := by rw [← hC]
  rw [hpk, hK, hcl]
  clear hC hpk hK hcl hsp
  refine wps_seq ?_
  refine wps_for (items := rng 0 3) (fun j s => ∃ (n : Nat) (w : List Int) (w2 : W) (c : Nat), s = ⟨[.no, .pen, w2, if j = 0 then .no else .d (.int (n : Int)), if j = 0 then .no else .d (.list (iL w)), .no], [], c⟩ ∧ c ≤ j * 1000 ∧ 1 ≤ n ∧ n ≤ 5 ∧ w.length ≤ 16 ∧ ∀ x ∈ w, 0 ≤ x ∧ x < (n : Int) + 1) ?_ ?_ ?_
  · refine wpi_rng1 ?_
    walk_at "g"
    refine ⟨by omega, by omega, rfl, 1, [], .no, 0, rfl, by omega, by omega, by omega, by simp, by simp⟩
  · rintro j d s1 hd ⟨n0, w0, w2, c, rfl, hc, -⟩
    obtain ⟨hj, rfl⟩ := rng_get hd
    refine wpg_name ?_
    generalize (if j = 0 then W.no else W.d (.int (n0 : Int))) = w3
    generalize (if j = 0 then W.no else W.d (.list (iL w0))) = w4
    refine wps_seq (wps_set (wpe_add (wpe_int (wpe_cN1 rfl ?_))))
    walk_at "w"
    refine ⟨_, rfl, _, rfl, by omega, by omega, by show c < 1000000000; omega, fun r hr0 hr1 => ⟨_, _, rfl, rfl, ?_⟩⟩
    obtain ⟨n, rfl⟩ : ∃ n : Nat, r = (n : Int) - 1 := ⟨(r + 1).toNat, by omega⟩
    show wps C _ ⟨[.no, .pen, .d (.int (0 + (j : Int))), .d (.int (1 + ((n : Int) - 1))), w4, .no], [], c + 1⟩ _
    rw [show (1 : Int) + ((n : Int) - 1) = n by omega]
    refine wps_seq (wps_set (wpe_lc (tgw_name (by simp)) ?_))
    refine wpi_rng1 (wpa_cons (wpe_cN1 rfl ?_))
    walk_at "w"
    refine ⟨_, rfl, _, rfl, by omega, by omega, by show c + 1 < 1000000000; omega, fun m hm0 hm1 => wpa_nil ⟨_, rfl, by omega, by omega, ?_⟩⟩
    refine ⟨fun i acc c' => ∃ w : List Int, acc = iL w ∧ w.length = i ∧ (∀ x ∈ w, 0 ≤ x ∧ x < (n : Int) + 1) ∧ c' = c + 2 + i, ⟨[], rfl, rfl, by simp, rfl⟩, by rw [rng_len]; omega, ?_, ?_⟩
    · rintro i d acc c' hd ⟨w, rfl, hwl, hw, rfl⟩ -
      obtain ⟨hi, rfl⟩ := rng_get hd
      refine wpg_name ?_
      walk_at "w"
      refine ⟨fun _ => wpe_cN1 rfl ?_, fun z => nomatch z⟩
      walk_at "w"
      refine ⟨_, _, rfl, rfl, _, rfl, _, rfl, by omega, by omega, by show c + 2 + i < 1000000000; omega, fun x hx0 hx1 => ⟨_, rfl, rfl, w ++ [x], by simp [iL], by simp [hwl], fun y hy => ?_, rfl⟩⟩
      rcases List.mem_append.mp hy with q | q
      · exact hw y q
      · have : y = x := by simpa using q
        omega
    · rintro acc c' hal ⟨w, rfl, hwl, hw, rfl⟩
      rw [rng_len] at hwl
      show wps C _ ⟨[.no, .pen, .d (.int (0 + (j : Int))), .d (.int (n : Int)), .d (.list (iL w)), .no], [], c + 2 + (rng 0 m.toNat).length⟩ _
      rw [rng_len]
      refine wps_if (wpt_or (wpt_not (wpt_B (wpe_cN2 rfl ?_))))
      walk_at "w"
      refine ⟨_, _, rfl, rfl, (n : Int), w, rfl, by omega, by omega, ⟨by omega, hw⟩, by show c + 2 + m.toNat + 300 < 1000000000; omega, fun c1 l1 l2 => ⟨true, rfl, fun _ => ?_, fun z => nomatch z⟩⟩
      have l1 : c + 2 + m.toNat ≤ c1 := l1
      have l2 : c1 ≤ c + 2 + m.toNat + 300 := l2
      refine wpt_not (wpt_B (wpe_cN1 rfl ?_))
      walk_at "w"
      refine ⟨_, rfl, n, rfl, by omega, by omega, by show c1 + 10 < 1000000000; omega, fun c2 l3 l4 => ⟨true, rfl, (fun z => nomatch z), fun _ => ?_⟩⟩
      have l3 : c1 ≤ c2 := l3
      have l4 : c2 ≤ c1 + 10 := l4
      exact wps_next ⟨n, w, _, c2, by rw [if_neg (by omega), if_neg (by omega)], by omega, by omega, by omega, by omega, hw⟩
  · rintro s1 ⟨n, w, w2, c, rfl, hc, h1, h5, hl, hw⟩
    rw [rng_len] at hc ⊢
    rw [if_neg (by omega), if_neg (by omega)]
    refine wps_ret (wpe_cN2 rfl ?_)
    walk_at "w"
    exact ⟨_, _, rfl, rfl, n, w, rfl, h1, h5, hl, hw, by show c + 10 < 1000000000; omega, fun _ _ _ => rfl⟩
end P75
set_option Elab.async false
set_option linter.all false
set_option maxRecDepth 100000
set_option maxHeartbeats 4000000
namespace P75
open PySem L2 Evl DL RZ
def Df (K : PySem.W.Frag) (mg : Str → Option Value) (x : Str) (st : Stmt) : Prop := ∃ (f : Addr) (fd : FuncData), Fun K x x st f fd ∧ mg x = some (.ref f)
theorem df_cl {P : Program} {w : World} {K : PySem.W.Frag} {mg : Str → Option Value} {base : Heap} {CX : CXT} {k : Nat} {x : Str} {st : Stmt} {ps : List Str} {sp : Sp} (D : Df K mg x st) (ok : ∀ f fd, Fun K x x st f fd → FnOk P w K mg base CX k f fd ps sp)
    (hb : ∀ (kV doc pm : Value) (an : Option Addr) (cdv ct : Value) (us : List Value), us.length = ps.length → bindArgs (PySem.W.fnOf x x (defArgs st) (defBody st) (defScope st) .none kV doc pm an cdv ct) ⟨us, []⟩ = pure (ps.zip us)) : Cl P w K mg base CX k x ps sp := by
  obtain ⟨f, fd, F, hm⟩ := D
  exact fun_cl F (ok f fd F) hm hb
section
variable {K : PySem.W.Frag} {cl : Str → Option Addr} {Wd : Wf} {Wn : WfN} {n : Nat} {N : List Str}
theorem lenP (hl : ∀ ds Φ Ψ, Wd ds Φ Ψ → ds.length = n) (vs : List V) (H : Hp) (Q : VK) (E : XK) (h : spP K cl Wd vs H Q E) : vs.length = n := by
  obtain ⟨G, ds, Φ, Ψ, eg, r, hw, _⟩ := h
  rw [← hl ds Φ Ψ hw]
  exact r.length
theorem runP {t : XK → TS} (hN : n ≤ N.length) (hl : ∀ ds Φ Ψ, Wd ds Φ Ψ → ds.length = n) (hw : ∀ E Ψ ds Φ, Wd ds Φ Ψ → wps { K := K, cl := cl, EX := E, Psi := Ψ } (t E) (start0 (ds.map .d) N.length 0) (DD Φ)) (vs : List V) (H : Hp) (Q : VK) (E : XK) (h : spP K cl Wd vs H Q E) :
    t E { nx := fun _ H' => Q .non H', rt := Q } (L2.start N vs) H :=
  sp_ok h (by rw [lenP hl vs H Q E h]; exact hN) fun ds Φ Ψ k => hw E Ψ ds Φ k
theorem lenN {T : List (Addr × Str)} {m : Nat} (hm : m = n) (hl : ∀ ds c Φ, Wn ds c Φ → ds.length + 1 = n) (vs : List V) (H : Hp) (Q : VK) (E : XK) (h : spN K cl (pkD T) Wn vs H Q E) : vs.length = n := by
  obtain ⟨N, us, G, ds, c, Φ, rfl, hp, eg, hx, r, hpn, hw, _⟩ := h
  rw [← hl ds c Φ hw, ← r.length]
  rfl
theorem runN {T : List (Addr × Str)} {t : TS} (hN : n ≤ N.length) (hl : ∀ ds c Φ, Wn ds c Φ → ds.length + 1 = n) (hw : ∀ E ds c Φ, Wn ds c Φ → wps { K := K, cl := cl, EX := E, Psi := fun _ => False, pk := pkD T } t (start0 (.pen :: ds.map .d) N.length c) (DN Φ)) (vs : List V) (H : Hp) (Q : VK) (E : XK) (h : spN K cl (pkD T) Wn vs H Q E) :
    t { nx := fun _ H' => Q .non H', rt := Q } (L2.start N vs) H :=
  spN_ok pkD_x h (by rw [lenN rfl hl vs H Q E h]; exact hN) fun ds c Φ k => hw E ds c Φ k
theorem lenPen (vs : List V) (H : Hp) (Q : VK) (E : XK) (h : spPen K vs H Q E) : vs.length = 1 := by
  obtain ⟨a, ns, rfl, _⟩ := h
  rfl
end
structure Dfs (K : PySem.W.Frag) (mg : Str → Option Value) : Prop where
  d_is_integer : Df K mg "is_integer" s_is_integer
  d_is_row : Df K mg "is_row" s_is_row
  d_is_point : Df K mg "is_point" s_is_point
  d_need_many : Df K mg "need_many" s_need_many
  d_need_letters : Df K mg "need_letters" s_need_letters
  d_need_asked : Df K mg "need_asked" s_need_asked
  d_left_of : Df K mg "left_of" s_left_of
  d_changed : Df K mg "changed" s_changed
  d_word_down : Df K mg "word_down" s_word_down
  d_word_up : Df K mg "word_up" s_word_up
  d_lower_word : Df K mg "lower_word" s_lower_word
  d_raise_word : Df K mg "raise_word" s_raise_word
  d_word_depths : Df K mg "word_depths" s_word_depths
  d_weight_of_letters : Df K mg "weight_of_letters" s_weight_of_letters
  d_word_weight : Df K mg "word_weight" s_word_weight
  d_is_high : Df K mg "is_high" s_is_high
  d_is_high_word : Df K mg "is_high_word" s_is_high_word
  d_are_rows : Df K mg "are_rows" s_are_rows
  d_has_two : Df K mg "has_two" s_has_two
  d_has_ring : Df K mg "has_ring" s_has_ring
  d_wrong_arrows : Df K mg "wrong_arrows" s_wrong_arrows
  d_need_web : Df K mg "need_web" s_need_web
  d_backward : Df K mg "backward" s_backward
  d_backs_of : Df K mg "backs_of" s_backs_of
  d_how_far : Df K mg "how_far" s_how_far
  d_all_depths : Df K mg "all_depths" s_all_depths
  d_need_alike_colours : Df K mg "need_alike_colours" s_need_alike_colours
  d_joined_row : Df K mg "joined_row" s_joined_row
  d_joined : Df K mg "joined" s_joined
  d__law_pen : Df K mg "_law_pen" s__law_pen
  d__law_draw : Df K mg "_law_draw" s__law_draw
  d__law_pick : Df K mg "_law_pick" s__law_pick
  d__law_listed : Df K mg "_law_listed" s__law_listed
  d__law_is_truth : Df K mg "_law_is_truth" s__law_is_truth
  d__law_is_int : Df K mg "_law_is_int" s__law_is_int
  d__law_is_ints : Df K mg "_law_is_ints" s__law_is_ints
  d__law_odd_point : Df K mg "_law_odd_point" s__law_odd_point
  d__law_left : Df K mg "_law_left" s__law_left
  d__law_with : Df K mg "_law_with" s__law_with
  d__law_word_right : Df K mg "_law_word_right" s__law_word_right
  d__law_joined_right : Df K mg "_law_joined_right" s__law_joined_right
theorem k_is_integer {P : Program} {w : World} {K : PySem.W.Frag} {mg : Str → Option Value} {base : Heap} {A : Ads} {Tb : List (Addr × Str)} (D : Dfs K mg) (T : Tx K mg A) (O : OwnC K (clA A) "Web" A.c_Web fWeb) (I : IsiC K A.c_Web) : Cl P w K mg base CX0 1 "is_integer" ["value"] (spP K (clA A) W_is_integer) :=
  df_cl D.d_is_integer (fun f fd F => ok_is_integer F T (lenP (n := 1) fun ds Φ Ψ h => by first | (obtain ⟨_, rfl | rfl, _⟩ := h <;> rfl) | (obtain ⟨_, rfl, _⟩ := h; rfl) | (obtain ⟨_, _, rfl, _⟩ := h; rfl) | (obtain ⟨_, _, _, rfl, _⟩ := h; rfl) | (obtain ⟨_, _, _, _, rfl, _⟩ := h; rfl) | (obtain ⟨_, _, _, _, _, rfl, _⟩ := h; rfl) | (obtain ⟨rfl, _⟩ := h; rfl)) (runP (n := 1) (by decide) (fun ds Φ Ψ h => by first | (obtain ⟨_, rfl | rfl, _⟩ := h <;> rfl) | (obtain ⟨_, rfl, _⟩ := h; rfl) | (obtain ⟨_, _, rfl, _⟩ := h; rfl) | (obtain ⟨_, _, _, rfl, _⟩ := h; rfl) | (obtain ⟨_, _, _, _, rfl, _⟩ := h; rfl) | (obtain ⟨_, _, _, _, _, rfl, _⟩ := h; rfl) | (obtain ⟨rfl, _⟩ := h; rfl)) fun E Ψ ds Φ h => w_is_integer h)) (fun _ _ _ _ _ _ us hl => match us, hl with | [_], _ => rfl)
theorem k_is_row {P : Program} {w : World} {K : PySem.W.Frag} {mg : Str → Option Value} {base : Heap} {A : Ads} {Tb : List (Addr × Str)} (D : Dfs K mg) (T : Tx K mg A) (O : OwnC K (clA A) "Web" A.c_Web fWeb) (I : IsiC K A.c_Web) : Cl P w K mg base CX0 1 "is_row" ["value"] (spP K (clA A) W_is_row) :=
  df_cl D.d_is_row (fun f fd F => ok_is_row F T (lenP (n := 1) fun ds Φ Ψ h => by first | (obtain ⟨_, rfl | rfl, _⟩ := h <;> rfl) | (obtain ⟨_, rfl, _⟩ := h; rfl) | (obtain ⟨_, _, rfl, _⟩ := h; rfl) | (obtain ⟨_, _, _, rfl, _⟩ := h; rfl) | (obtain ⟨_, _, _, _, rfl, _⟩ := h; rfl) | (obtain ⟨_, _, _, _, _, rfl, _⟩ := h; rfl) | (obtain ⟨rfl, _⟩ := h; rfl)) (runP (n := 1) (by decide) (fun ds Φ Ψ h => by first | (obtain ⟨_, rfl | rfl, _⟩ := h <;> rfl) | (obtain ⟨_, rfl, _⟩ := h; rfl) | (obtain ⟨_, _, rfl, _⟩ := h; rfl) | (obtain ⟨_, _, _, rfl, _⟩ := h; rfl) | (obtain ⟨_, _, _, _, rfl, _⟩ := h; rfl) | (obtain ⟨_, _, _, _, _, rfl, _⟩ := h; rfl) | (obtain ⟨rfl, _⟩ := h; rfl)) fun E Ψ ds Φ h => w_is_row h)) (fun _ _ _ _ _ _ us hl => match us, hl with | [_], _ => rfl)
theorem k_is_point {P : Program} {w : World} {K : PySem.W.Frag} {mg : Str → Option Value} {base : Heap} {A : Ads} {Tb : List (Addr × Str)} (D : Dfs K mg) (T : Tx K mg A) (O : OwnC K (clA A) "Web" A.c_Web fWeb) (I : IsiC K A.c_Web) (c_is_integer : Cl P w K mg base CX0 1 "is_integer" ["value"] (spP K (clA A) W_is_integer)) : Cl P w K mg base CX0 2 "is_point" ["many", "value"] (spP K (clA A) W_is_point) :=
  df_cl D.d_is_point (fun f fd F => ok_is_point F T c_is_integer (lenP (n := 2) fun ds Φ Ψ h => by first | (obtain ⟨_, rfl | rfl, _⟩ := h <;> rfl) | (obtain ⟨_, rfl, _⟩ := h; rfl) | (obtain ⟨_, _, rfl, _⟩ := h; rfl) | (obtain ⟨_, _, _, rfl, _⟩ := h; rfl) | (obtain ⟨_, _, _, _, rfl, _⟩ := h; rfl) | (obtain ⟨_, _, _, _, _, rfl, _⟩ := h; rfl) | (obtain ⟨rfl, _⟩ := h; rfl)) (runP (n := 2) (by decide) (fun ds Φ Ψ h => by first | (obtain ⟨_, rfl | rfl, _⟩ := h <;> rfl) | (obtain ⟨_, rfl, _⟩ := h; rfl) | (obtain ⟨_, _, rfl, _⟩ := h; rfl) | (obtain ⟨_, _, _, rfl, _⟩ := h; rfl) | (obtain ⟨_, _, _, _, rfl, _⟩ := h; rfl) | (obtain ⟨_, _, _, _, _, rfl, _⟩ := h; rfl) | (obtain ⟨rfl, _⟩ := h; rfl)) fun E Ψ ds Φ h => w_is_point h)) (fun _ _ _ _ _ _ us hl => match us, hl with | [_, _], _ => rfl)
theorem k_need_many {P : Program} {w : World} {K : PySem.W.Frag} {mg : Str → Option Value} {base : Heap} {A : Ads} {Tb : List (Addr × Str)} (D : Dfs K mg) (T : Tx K mg A) (O : OwnC K (clA A) "Web" A.c_Web fWeb) (I : IsiC K A.c_Web) (c_is_integer : Cl P w K mg base CX0 1 "is_integer" ["value"] (spP K (clA A) W_is_integer)) (c_BadNumber : ClC P w K mg base A.c_BadNumber 2 "BadNumber" (spXI A.c_BadNumber ["what", "value"])) : Cl P w K mg base (L2.CX P w) 4 "need_many" ["n"] (spP K (clA A) W_need_many) :=
  df_cl D.d_need_many (fun f fd F => ok_need_many F T c_is_integer c_BadNumber (lenP (n := 1) fun ds Φ Ψ h => by first | (obtain ⟨_, rfl | rfl, _⟩ := h <;> rfl) | (obtain ⟨_, rfl, _⟩ := h; rfl) | (obtain ⟨_, _, rfl, _⟩ := h; rfl) | (obtain ⟨_, _, _, rfl, _⟩ := h; rfl) | (obtain ⟨_, _, _, _, rfl, _⟩ := h; rfl) | (obtain ⟨_, _, _, _, _, rfl, _⟩ := h; rfl) | (obtain ⟨rfl, _⟩ := h; rfl)) (runP (n := 1) (by decide) (fun ds Φ Ψ h => by first | (obtain ⟨_, rfl | rfl, _⟩ := h <;> rfl) | (obtain ⟨_, rfl, _⟩ := h; rfl) | (obtain ⟨_, _, rfl, _⟩ := h; rfl) | (obtain ⟨_, _, _, rfl, _⟩ := h; rfl) | (obtain ⟨_, _, _, _, rfl, _⟩ := h; rfl) | (obtain ⟨_, _, _, _, _, rfl, _⟩ := h; rfl) | (obtain ⟨rfl, _⟩ := h; rfl)) fun E Ψ ds Φ h => w_need_many rfl h)) (fun _ _ _ _ _ _ us hl => match us, hl with | [_], _ => rfl)
theorem k_need_letters {P : Program} {w : World} {K : PySem.W.Frag} {mg : Str → Option Value} {base : Heap} {A : Ads} {Tb : List (Addr × Str)} (D : Dfs K mg) (T : Tx K mg A) (O : OwnC K (clA A) "Web" A.c_Web fWeb) (I : IsiC K A.c_Web) (c_is_row : Cl P w K mg base CX0 1 "is_row" ["value"] (spP K (clA A) W_is_row)) (c_BadLetters : ClC P w K mg base A.c_BadLetters 2 "BadLetters" (spXI A.c_BadLetters ["index"])) (c_is_point : Cl P w K mg base CX0 2 "is_point" ["many", "value"] (spP K (clA A) W_is_point)) : Cl P w K mg base (L2.CX P w) 4 "need_letters" ["n", "word"] (spP K (clA A) W_need_letters) :=
  df_cl D.d_need_letters (fun f fd F => ok_need_letters F T c_is_row c_BadLetters c_is_point (lenP (n := 2) fun ds Φ Ψ h => by first | (obtain ⟨_, rfl | rfl, _⟩ := h <;> rfl) | (obtain ⟨_, rfl, _⟩ := h; rfl) | (obtain ⟨_, _, rfl, _⟩ := h; rfl) | (obtain ⟨_, _, _, rfl, _⟩ := h; rfl) | (obtain ⟨_, _, _, _, rfl, _⟩ := h; rfl) | (obtain ⟨_, _, _, _, _, rfl, _⟩ := h; rfl) | (obtain ⟨rfl, _⟩ := h; rfl)) (runP (n := 2) (by decide) (fun ds Φ Ψ h => by first | (obtain ⟨_, rfl | rfl, _⟩ := h <;> rfl) | (obtain ⟨_, rfl, _⟩ := h; rfl) | (obtain ⟨_, _, rfl, _⟩ := h; rfl) | (obtain ⟨_, _, _, rfl, _⟩ := h; rfl) | (obtain ⟨_, _, _, _, rfl, _⟩ := h; rfl) | (obtain ⟨_, _, _, _, _, rfl, _⟩ := h; rfl) | (obtain ⟨rfl, _⟩ := h; rfl)) fun E Ψ ds Φ h => w_need_letters rfl h)) (fun _ _ _ _ _ _ us hl => match us, hl with | [_, _], _ => rfl)
theorem k_need_asked {P : Program} {w : World} {K : PySem.W.Frag} {mg : Str → Option Value} {base : Heap} {A : Ads} {Tb : List (Addr × Str)} (D : Dfs K mg) (T : Tx K mg A) (O : OwnC K (clA A) "Web" A.c_Web fWeb) (I : IsiC K A.c_Web) (c_need_many : Cl P w K mg base (L2.CX P w) 4 "need_many" ["n"] (spP K (clA A) W_need_many)) (c_need_letters : Cl P w K mg base (L2.CX P w) 4 "need_letters" ["n", "word"] (spP K (clA A) W_need_letters)) (c_is_point : Cl P w K mg base CX0 2 "is_point" ["many", "value"] (spP K (clA A) W_is_point)) (c_BadColour : ClC P w K mg base A.c_BadColour 2 "BadColour" (spXI A.c_BadColour ["value"])) : Cl P w K mg base (L2.CX P w) 5 "need_asked" ["n", "word", "i"] (spP K (clA A) W_need_asked) :=
  df_cl D.d_need_asked (fun f fd F => ok_need_asked F T c_need_many c_need_letters c_is_point c_BadColour (lenP (n := 3) fun ds Φ Ψ h => by first | (obtain ⟨_, rfl | rfl, _⟩ := h <;> rfl) | (obtain ⟨_, rfl, _⟩ := h; rfl) | (obtain ⟨_, _, rfl, _⟩ := h; rfl) | (obtain ⟨_, _, _, rfl, _⟩ := h; rfl) | (obtain ⟨_, _, _, _, rfl, _⟩ := h; rfl) | (obtain ⟨_, _, _, _, _, rfl, _⟩ := h; rfl) | (obtain ⟨rfl, _⟩ := h; rfl)) (runP (n := 3) (by decide) (fun ds Φ Ψ h => by first | (obtain ⟨_, rfl | rfl, _⟩ := h <;> rfl) | (obtain ⟨_, rfl, _⟩ := h; rfl) | (obtain ⟨_, _, rfl, _⟩ := h; rfl) | (obtain ⟨_, _, _, rfl, _⟩ := h; rfl) | (obtain ⟨_, _, _, _, rfl, _⟩ := h; rfl) | (obtain ⟨_, _, _, _, _, rfl, _⟩ := h; rfl) | (obtain ⟨rfl, _⟩ := h; rfl)) fun E Ψ ds Φ h => w_need_asked rfl h)) (fun _ _ _ _ _ _ us hl => match us, hl with | [_, _, _], _ => rfl)
theorem k_left_of {P : Program} {w : World} {K : PySem.W.Frag} {mg : Str → Option Value} {base : Heap} {A : Ads} {Tb : List (Addr × Str)} (D : Dfs K mg) (T : Tx K mg A) (O : OwnC K (clA A) "Web" A.c_Web fWeb) (I : IsiC K A.c_Web) : Cl P w K mg base CX0 1 "left_of" ["word", "i"] (spP K (clA A) W_left_of) :=
  df_cl D.d_left_of (fun f fd F => ok_left_of F T (lenP (n := 2) fun ds Φ Ψ h => by first | (obtain ⟨_, rfl | rfl, _⟩ := h <;> rfl) | (obtain ⟨_, rfl, _⟩ := h; rfl) | (obtain ⟨_, _, rfl, _⟩ := h; rfl) | (obtain ⟨_, _, _, rfl, _⟩ := h; rfl) | (obtain ⟨_, _, _, _, rfl, _⟩ := h; rfl) | (obtain ⟨_, _, _, _, _, rfl, _⟩ := h; rfl) | (obtain ⟨rfl, _⟩ := h; rfl)) (runP (n := 2) (by decide) (fun ds Φ Ψ h => by first | (obtain ⟨_, rfl | rfl, _⟩ := h <;> rfl) | (obtain ⟨_, rfl, _⟩ := h; rfl) | (obtain ⟨_, _, rfl, _⟩ := h; rfl) | (obtain ⟨_, _, _, rfl, _⟩ := h; rfl) | (obtain ⟨_, _, _, _, rfl, _⟩ := h; rfl) | (obtain ⟨_, _, _, _, _, rfl, _⟩ := h; rfl) | (obtain ⟨rfl, _⟩ := h; rfl)) fun E Ψ ds Φ h => w_left_of h)) (fun _ _ _ _ _ _ us hl => match us, hl with | [_, _], _ => rfl)
theorem k_changed {P : Program} {w : World} {K : PySem.W.Frag} {mg : Str → Option Value} {base : Heap} {A : Ads} {Tb : List (Addr × Str)} (D : Dfs K mg) (T : Tx K mg A) (O : OwnC K (clA A) "Web" A.c_Web fWeb) (I : IsiC K A.c_Web) : Cl P w K mg base CX0 1 "changed" ["word", "index", "letter"] (spP K (clA A) W_changed) :=
  df_cl D.d_changed (fun f fd F => ok_changed F T (lenP (n := 3) fun ds Φ Ψ h => by first | (obtain ⟨_, rfl | rfl, _⟩ := h <;> rfl) | (obtain ⟨_, rfl, _⟩ := h; rfl) | (obtain ⟨_, _, rfl, _⟩ := h; rfl) | (obtain ⟨_, _, _, rfl, _⟩ := h; rfl) | (obtain ⟨_, _, _, _, rfl, _⟩ := h; rfl) | (obtain ⟨_, _, _, _, _, rfl, _⟩ := h; rfl) | (obtain ⟨rfl, _⟩ := h; rfl)) (runP (n := 3) (by decide) (fun ds Φ Ψ h => by first | (obtain ⟨_, rfl | rfl, _⟩ := h <;> rfl) | (obtain ⟨_, rfl, _⟩ := h; rfl) | (obtain ⟨_, _, rfl, _⟩ := h; rfl) | (obtain ⟨_, _, _, rfl, _⟩ := h; rfl) | (obtain ⟨_, _, _, _, rfl, _⟩ := h; rfl) | (obtain ⟨_, _, _, _, _, rfl, _⟩ := h; rfl) | (obtain ⟨rfl, _⟩ := h; rfl)) fun E Ψ ds Φ h => w_changed h)) (fun _ _ _ _ _ _ us hl => match us, hl with | [_, _, _], _ => rfl)
theorem k_word_down {P : Program} {w : World} {K : PySem.W.Frag} {mg : Str → Option Value} {base : Heap} {A : Ads} {Tb : List (Addr × Str)} (D : Dfs K mg) (T : Tx K mg A) (O : OwnC K (clA A) "Web" A.c_Web fWeb) (I : IsiC K A.c_Web) (c_left_of : Cl P w K mg base CX0 1 "left_of" ["word", "i"] (spP K (clA A) W_left_of)) (c_changed : Cl P w K mg base CX0 1 "changed" ["word", "index", "letter"] (spP K (clA A) W_changed)) : Cl P w K mg base CX0 2 "word_down" ["word", "i"] (spP K (clA A) W_word_down) :=
  df_cl D.d_word_down (fun f fd F => ok_word_down F T c_left_of c_changed (lenP (n := 2) fun ds Φ Ψ h => by first | (obtain ⟨_, rfl | rfl, _⟩ := h <;> rfl) | (obtain ⟨_, rfl, _⟩ := h; rfl) | (obtain ⟨_, _, rfl, _⟩ := h; rfl) | (obtain ⟨_, _, _, rfl, _⟩ := h; rfl) | (obtain ⟨_, _, _, _, rfl, _⟩ := h; rfl) | (obtain ⟨_, _, _, _, _, rfl, _⟩ := h; rfl) | (obtain ⟨rfl, _⟩ := h; rfl)) (runP (n := 2) (by decide) (fun ds Φ Ψ h => by first | (obtain ⟨_, rfl | rfl, _⟩ := h <;> rfl) | (obtain ⟨_, rfl, _⟩ := h; rfl) | (obtain ⟨_, _, rfl, _⟩ := h; rfl) | (obtain ⟨_, _, _, rfl, _⟩ := h; rfl) | (obtain ⟨_, _, _, _, rfl, _⟩ := h; rfl) | (obtain ⟨_, _, _, _, _, rfl, _⟩ := h; rfl) | (obtain ⟨rfl, _⟩ := h; rfl)) fun E Ψ ds Φ h => w_word_down h)) (fun _ _ _ _ _ _ us hl => match us, hl with | [_, _], _ => rfl)
theorem k_word_up {P : Program} {w : World} {K : PySem.W.Frag} {mg : Str → Option Value} {base : Heap} {A : Ads} {Tb : List (Addr × Str)} (D : Dfs K mg) (T : Tx K mg A) (O : OwnC K (clA A) "Web" A.c_Web fWeb) (I : IsiC K A.c_Web) (c_left_of : Cl P w K mg base CX0 1 "left_of" ["word", "i"] (spP K (clA A) W_left_of)) (c_changed : Cl P w K mg base CX0 1 "changed" ["word", "index", "letter"] (spP K (clA A) W_changed)) : Cl P w K mg base CX0 2 "word_up" ["word", "i"] (spP K (clA A) W_word_up) :=
  df_cl D.d_word_up (fun f fd F => ok_word_up F T c_left_of c_changed (lenP (n := 2) fun ds Φ Ψ h => by first | (obtain ⟨_, rfl | rfl, _⟩ := h <;> rfl) | (obtain ⟨_, rfl, _⟩ := h; rfl) | (obtain ⟨_, _, rfl, _⟩ := h; rfl) | (obtain ⟨_, _, _, rfl, _⟩ := h; rfl) | (obtain ⟨_, _, _, _, rfl, _⟩ := h; rfl) | (obtain ⟨_, _, _, _, _, rfl, _⟩ := h; rfl) | (obtain ⟨rfl, _⟩ := h; rfl)) (runP (n := 2) (by decide) (fun ds Φ Ψ h => by first | (obtain ⟨_, rfl | rfl, _⟩ := h <;> rfl) | (obtain ⟨_, rfl, _⟩ := h; rfl) | (obtain ⟨_, _, rfl, _⟩ := h; rfl) | (obtain ⟨_, _, _, rfl, _⟩ := h; rfl) | (obtain ⟨_, _, _, _, rfl, _⟩ := h; rfl) | (obtain ⟨_, _, _, _, _, rfl, _⟩ := h; rfl) | (obtain ⟨rfl, _⟩ := h; rfl)) fun E Ψ ds Φ h => w_word_up h)) (fun _ _ _ _ _ _ us hl => match us, hl with | [_, _], _ => rfl)
theorem k_lower_word {P : Program} {w : World} {K : PySem.W.Frag} {mg : Str → Option Value} {base : Heap} {A : Ads} {Tb : List (Addr × Str)} (D : Dfs K mg) (T : Tx K mg A) (O : OwnC K (clA A) "Web" A.c_Web fWeb) (I : IsiC K A.c_Web) (c_word_down : Cl P w K mg base CX0 2 "word_down" ["word", "i"] (spP K (clA A) W_word_down)) (c_need_asked : Cl P w K mg base (L2.CX P w) 5 "need_asked" ["n", "word", "i"] (spP K (clA A) W_need_asked)) : Cl P w K mg base (L2.CX P w) 6 "lower_word" ["n", "word", "i"] (spP K (clA A) W_lower_word) :=
  df_cl D.d_lower_word (fun f fd F => ok_lower_word F T c_word_down c_need_asked (lenP (n := 3) fun ds Φ Ψ h => by first | (obtain ⟨_, rfl | rfl, _⟩ := h <;> rfl) | (obtain ⟨_, rfl, _⟩ := h; rfl) | (obtain ⟨_, _, rfl, _⟩ := h; rfl) | (obtain ⟨_, _, _, rfl, _⟩ := h; rfl) | (obtain ⟨_, _, _, _, rfl, _⟩ := h; rfl) | (obtain ⟨_, _, _, _, _, rfl, _⟩ := h; rfl) | (obtain ⟨rfl, _⟩ := h; rfl)) (runP (n := 3) (by decide) (fun ds Φ Ψ h => by first | (obtain ⟨_, rfl | rfl, _⟩ := h <;> rfl) | (obtain ⟨_, rfl, _⟩ := h; rfl) | (obtain ⟨_, _, rfl, _⟩ := h; rfl) | (obtain ⟨_, _, _, rfl, _⟩ := h; rfl) | (obtain ⟨_, _, _, _, rfl, _⟩ := h; rfl) | (obtain ⟨_, _, _, _, _, rfl, _⟩ := h; rfl) | (obtain ⟨rfl, _⟩ := h; rfl)) fun E Ψ ds Φ h => w_lower_word h)) (fun _ _ _ _ _ _ us hl => match us, hl with | [_, _, _], _ => rfl)
theorem k_raise_word {P : Program} {w : World} {K : PySem.W.Frag} {mg : Str → Option Value} {base : Heap} {A : Ads} {Tb : List (Addr × Str)} (D : Dfs K mg) (T : Tx K mg A) (O : OwnC K (clA A) "Web" A.c_Web fWeb) (I : IsiC K A.c_Web) (c_word_up : Cl P w K mg base CX0 2 "word_up" ["word", "i"] (spP K (clA A) W_word_up)) (c_need_asked : Cl P w K mg base (L2.CX P w) 5 "need_asked" ["n", "word", "i"] (spP K (clA A) W_need_asked)) : Cl P w K mg base (L2.CX P w) 6 "raise_word" ["n", "word", "i"] (spP K (clA A) W_raise_word) :=
  df_cl D.d_raise_word (fun f fd F => ok_raise_word F T c_word_up c_need_asked (lenP (n := 3) fun ds Φ Ψ h => by first | (obtain ⟨_, rfl | rfl, _⟩ := h <;> rfl) | (obtain ⟨_, rfl, _⟩ := h; rfl) | (obtain ⟨_, _, rfl, _⟩ := h; rfl) | (obtain ⟨_, _, _, rfl, _⟩ := h; rfl) | (obtain ⟨_, _, _, _, rfl, _⟩ := h; rfl) | (obtain ⟨_, _, _, _, _, rfl, _⟩ := h; rfl) | (obtain ⟨rfl, _⟩ := h; rfl)) (runP (n := 3) (by decide) (fun ds Φ Ψ h => by first | (obtain ⟨_, rfl | rfl, _⟩ := h <;> rfl) | (obtain ⟨_, rfl, _⟩ := h; rfl) | (obtain ⟨_, _, rfl, _⟩ := h; rfl) | (obtain ⟨_, _, _, rfl, _⟩ := h; rfl) | (obtain ⟨_, _, _, _, rfl, _⟩ := h; rfl) | (obtain ⟨_, _, _, _, _, rfl, _⟩ := h; rfl) | (obtain ⟨rfl, _⟩ := h; rfl)) fun E Ψ ds Φ h => w_raise_word h)) (fun _ _ _ _ _ _ us hl => match us, hl with | [_, _, _], _ => rfl)
theorem k_word_depths {P : Program} {w : World} {K : PySem.W.Frag} {mg : Str → Option Value} {base : Heap} {A : Ads} {Tb : List (Addr × Str)} (D : Dfs K mg) (T : Tx K mg A) (O : OwnC K (clA A) "Web" A.c_Web fWeb) (I : IsiC K A.c_Web) (c_left_of : Cl P w K mg base CX0 1 "left_of" ["word", "i"] (spP K (clA A) W_left_of)) (c_need_asked : Cl P w K mg base (L2.CX P w) 5 "need_asked" ["n", "word", "i"] (spP K (clA A) W_need_asked)) : Cl P w K mg base (L2.CX P w) 6 "word_depths" ["n", "word", "i"] (spP K (clA A) W_word_depths) :=
  df_cl D.d_word_depths (fun f fd F => ok_word_depths F T c_left_of c_need_asked (lenP (n := 3) fun ds Φ Ψ h => by first | (obtain ⟨_, rfl | rfl, _⟩ := h <;> rfl) | (obtain ⟨_, rfl, _⟩ := h; rfl) | (obtain ⟨_, _, rfl, _⟩ := h; rfl) | (obtain ⟨_, _, _, rfl, _⟩ := h; rfl) | (obtain ⟨_, _, _, _, rfl, _⟩ := h; rfl) | (obtain ⟨_, _, _, _, _, rfl, _⟩ := h; rfl) | (obtain ⟨rfl, _⟩ := h; rfl)) (runP (n := 3) (by decide) (fun ds Φ Ψ h => by first | (obtain ⟨_, rfl | rfl, _⟩ := h <;> rfl) | (obtain ⟨_, rfl, _⟩ := h; rfl) | (obtain ⟨_, _, rfl, _⟩ := h; rfl) | (obtain ⟨_, _, _, rfl, _⟩ := h; rfl) | (obtain ⟨_, _, _, _, rfl, _⟩ := h; rfl) | (obtain ⟨_, _, _, _, _, rfl, _⟩ := h; rfl) | (obtain ⟨rfl, _⟩ := h; rfl)) fun E Ψ ds Φ h => w_word_depths h)) (fun _ _ _ _ _ _ us hl => match us, hl with | [_, _, _], _ => rfl)
theorem k_weight_of_letters {P : Program} {w : World} {K : PySem.W.Frag} {mg : Str → Option Value} {base : Heap} {A : Ads} {Tb : List (Addr × Str)} (D : Dfs K mg) (T : Tx K mg A) (O : OwnC K (clA A) "Web" A.c_Web fWeb) (I : IsiC K A.c_Web) : Cl P w K mg base CX0 1 "weight_of_letters" ["n", "word"] (spP K (clA A) W_weight_of_letters) :=
  df_cl D.d_weight_of_letters (fun f fd F => ok_weight_of_letters F T (lenP (n := 2) fun ds Φ Ψ h => by first | (obtain ⟨_, rfl | rfl, _⟩ := h <;> rfl) | (obtain ⟨_, rfl, _⟩ := h; rfl) | (obtain ⟨_, _, rfl, _⟩ := h; rfl) | (obtain ⟨_, _, _, rfl, _⟩ := h; rfl) | (obtain ⟨_, _, _, _, rfl, _⟩ := h; rfl) | (obtain ⟨_, _, _, _, _, rfl, _⟩ := h; rfl) | (obtain ⟨rfl, _⟩ := h; rfl)) (runP (n := 2) (by decide) (fun ds Φ Ψ h => by first | (obtain ⟨_, rfl | rfl, _⟩ := h <;> rfl) | (obtain ⟨_, rfl, _⟩ := h; rfl) | (obtain ⟨_, _, rfl, _⟩ := h; rfl) | (obtain ⟨_, _, _, rfl, _⟩ := h; rfl) | (obtain ⟨_, _, _, _, rfl, _⟩ := h; rfl) | (obtain ⟨_, _, _, _, _, rfl, _⟩ := h; rfl) | (obtain ⟨rfl, _⟩ := h; rfl)) fun E Ψ ds Φ h => w_weight_of_letters h)) (fun _ _ _ _ _ _ us hl => match us, hl with | [_, _], _ => rfl)
theorem k_word_weight {P : Program} {w : World} {K : PySem.W.Frag} {mg : Str → Option Value} {base : Heap} {A : Ads} {Tb : List (Addr × Str)} (D : Dfs K mg) (T : Tx K mg A) (O : OwnC K (clA A) "Web" A.c_Web fWeb) (I : IsiC K A.c_Web) (c_need_many : Cl P w K mg base (L2.CX P w) 4 "need_many" ["n"] (spP K (clA A) W_need_many)) (c_weight_of_letters : Cl P w K mg base CX0 1 "weight_of_letters" ["n", "word"] (spP K (clA A) W_weight_of_letters)) (c_need_letters : Cl P w K mg base (L2.CX P w) 4 "need_letters" ["n", "word"] (spP K (clA A) W_need_letters)) : Cl P w K mg base (L2.CX P w) 5 "word_weight" ["n", "word"] (spP K (clA A) W_word_weight) :=
  df_cl D.d_word_weight (fun f fd F => ok_word_weight F T c_need_many c_weight_of_letters c_need_letters (lenP (n := 2) fun ds Φ Ψ h => by first | (obtain ⟨_, rfl | rfl, _⟩ := h <;> rfl) | (obtain ⟨_, rfl, _⟩ := h; rfl) | (obtain ⟨_, _, rfl, _⟩ := h; rfl) | (obtain ⟨_, _, _, rfl, _⟩ := h; rfl) | (obtain ⟨_, _, _, _, rfl, _⟩ := h; rfl) | (obtain ⟨_, _, _, _, _, rfl, _⟩ := h; rfl) | (obtain ⟨rfl, _⟩ := h; rfl)) (runP (n := 2) (by decide) (fun ds Φ Ψ h => by first | (obtain ⟨_, rfl | rfl, _⟩ := h <;> rfl) | (obtain ⟨_, rfl, _⟩ := h; rfl) | (obtain ⟨_, _, rfl, _⟩ := h; rfl) | (obtain ⟨_, _, _, rfl, _⟩ := h; rfl) | (obtain ⟨_, _, _, _, rfl, _⟩ := h; rfl) | (obtain ⟨_, _, _, _, _, rfl, _⟩ := h; rfl) | (obtain ⟨rfl, _⟩ := h; rfl)) fun E Ψ ds Φ h => w_word_weight h)) (fun _ _ _ _ _ _ us hl => match us, hl with | [_, _], _ => rfl)
theorem k_is_high {P : Program} {w : World} {K : PySem.W.Frag} {mg : Str → Option Value} {base : Heap} {A : Ads} {Tb : List (Addr × Str)} (D : Dfs K mg) (T : Tx K mg A) (O : OwnC K (clA A) "Web" A.c_Web fWeb) (I : IsiC K A.c_Web) (c_word_up : Cl P w K mg base CX0 2 "word_up" ["word", "i"] (spP K (clA A) W_word_up)) : Cl P w K mg base CX0 3 "is_high" ["n", "word"] (spP K (clA A) W_is_high) :=
  df_cl D.d_is_high (fun f fd F => ok_is_high F T c_word_up (lenP (n := 2) fun ds Φ Ψ h => by first | (obtain ⟨_, rfl | rfl, _⟩ := h <;> rfl) | (obtain ⟨_, rfl, _⟩ := h; rfl) | (obtain ⟨_, _, rfl, _⟩ := h; rfl) | (obtain ⟨_, _, _, rfl, _⟩ := h; rfl) | (obtain ⟨_, _, _, _, rfl, _⟩ := h; rfl) | (obtain ⟨_, _, _, _, _, rfl, _⟩ := h; rfl) | (obtain ⟨rfl, _⟩ := h; rfl)) (runP (n := 2) (by decide) (fun ds Φ Ψ h => by first | (obtain ⟨_, rfl | rfl, _⟩ := h <;> rfl) | (obtain ⟨_, rfl, _⟩ := h; rfl) | (obtain ⟨_, _, rfl, _⟩ := h; rfl) | (obtain ⟨_, _, _, rfl, _⟩ := h; rfl) | (obtain ⟨_, _, _, _, rfl, _⟩ := h; rfl) | (obtain ⟨_, _, _, _, _, rfl, _⟩ := h; rfl) | (obtain ⟨rfl, _⟩ := h; rfl)) fun E Ψ ds Φ h => w_is_high h)) (fun _ _ _ _ _ _ us hl => match us, hl with | [_, _], _ => rfl)
theorem k_is_high_word {P : Program} {w : World} {K : PySem.W.Frag} {mg : Str → Option Value} {base : Heap} {A : Ads} {Tb : List (Addr × Str)} (D : Dfs K mg) (T : Tx K mg A) (O : OwnC K (clA A) "Web" A.c_Web fWeb) (I : IsiC K A.c_Web) (c_need_many : Cl P w K mg base (L2.CX P w) 4 "need_many" ["n"] (spP K (clA A) W_need_many)) (c_is_high : Cl P w K mg base CX0 3 "is_high" ["n", "word"] (spP K (clA A) W_is_high)) (c_need_letters : Cl P w K mg base (L2.CX P w) 4 "need_letters" ["n", "word"] (spP K (clA A) W_need_letters)) : Cl P w K mg base (L2.CX P w) 5 "is_high_word" ["n", "word"] (spP K (clA A) W_is_high_word) :=
  df_cl D.d_is_high_word (fun f fd F => ok_is_high_word F T c_need_many c_is_high c_need_letters (lenP (n := 2) fun ds Φ Ψ h => by first | (obtain ⟨_, rfl | rfl, _⟩ := h <;> rfl) | (obtain ⟨_, rfl, _⟩ := h; rfl) | (obtain ⟨_, _, rfl, _⟩ := h; rfl) | (obtain ⟨_, _, _, rfl, _⟩ := h; rfl) | (obtain ⟨_, _, _, _, rfl, _⟩ := h; rfl) | (obtain ⟨_, _, _, _, _, rfl, _⟩ := h; rfl) | (obtain ⟨rfl, _⟩ := h; rfl)) (runP (n := 2) (by decide) (fun ds Φ Ψ h => by first | (obtain ⟨_, rfl | rfl, _⟩ := h <;> rfl) | (obtain ⟨_, rfl, _⟩ := h; rfl) | (obtain ⟨_, _, rfl, _⟩ := h; rfl) | (obtain ⟨_, _, _, rfl, _⟩ := h; rfl) | (obtain ⟨_, _, _, _, rfl, _⟩ := h; rfl) | (obtain ⟨_, _, _, _, _, rfl, _⟩ := h; rfl) | (obtain ⟨rfl, _⟩ := h; rfl)) fun E Ψ ds Φ h => w_is_high_word h)) (fun _ _ _ _ _ _ us hl => match us, hl with | [_, _], _ => rfl)
theorem k_are_rows {P : Program} {w : World} {K : PySem.W.Frag} {mg : Str → Option Value} {base : Heap} {A : Ads} {Tb : List (Addr × Str)} (D : Dfs K mg) (T : Tx K mg A) (O : OwnC K (clA A) "Web" A.c_Web fWeb) (I : IsiC K A.c_Web) (c_is_row : Cl P w K mg base CX0 1 "is_row" ["value"] (spP K (clA A) W_is_row)) : Cl P w K mg base CX0 2 "are_rows" ["value"] (spP K (clA A) W_are_rows) :=
  df_cl D.d_are_rows (fun f fd F => ok_are_rows F T c_is_row (lenP (n := 1) fun ds Φ Ψ h => by first | (obtain ⟨_, rfl | rfl, _⟩ := h <;> rfl) | (obtain ⟨_, rfl, _⟩ := h; rfl) | (obtain ⟨_, _, rfl, _⟩ := h; rfl) | (obtain ⟨_, _, _, rfl, _⟩ := h; rfl) | (obtain ⟨_, _, _, _, rfl, _⟩ := h; rfl) | (obtain ⟨_, _, _, _, _, rfl, _⟩ := h; rfl) | (obtain ⟨rfl, _⟩ := h; rfl)) (runP (n := 1) (by decide) (fun ds Φ Ψ h => by first | (obtain ⟨_, rfl | rfl, _⟩ := h <;> rfl) | (obtain ⟨_, rfl, _⟩ := h; rfl) | (obtain ⟨_, _, rfl, _⟩ := h; rfl) | (obtain ⟨_, _, _, rfl, _⟩ := h; rfl) | (obtain ⟨_, _, _, _, rfl, _⟩ := h; rfl) | (obtain ⟨_, _, _, _, _, rfl, _⟩ := h; rfl) | (obtain ⟨rfl, _⟩ := h; rfl)) fun E Ψ ds Φ h => w_are_rows h)) (fun _ _ _ _ _ _ us hl => match us, hl with | [_], _ => rfl)
theorem k_has_two {P : Program} {w : World} {K : PySem.W.Frag} {mg : Str → Option Value} {base : Heap} {A : Ads} {Tb : List (Addr × Str)} (D : Dfs K mg) (T : Tx K mg A) (O : OwnC K (clA A) "Web" A.c_Web fWeb) (I : IsiC K A.c_Web) : Cl P w K mg base CX0 1 "has_two" ["row"] (spP K (clA A) W_has_two) :=
  df_cl D.d_has_two (fun f fd F => ok_has_two F T (lenP (n := 1) fun ds Φ Ψ h => by first | (obtain ⟨_, rfl | rfl, _⟩ := h <;> rfl) | (obtain ⟨_, rfl, _⟩ := h; rfl) | (obtain ⟨_, _, rfl, _⟩ := h; rfl) | (obtain ⟨_, _, _, rfl, _⟩ := h; rfl) | (obtain ⟨_, _, _, _, rfl, _⟩ := h; rfl) | (obtain ⟨_, _, _, _, _, rfl, _⟩ := h; rfl) | (obtain ⟨rfl, _⟩ := h; rfl)) (runP (n := 1) (by decide) (fun ds Φ Ψ h => by first | (obtain ⟨_, rfl | rfl, _⟩ := h <;> rfl) | (obtain ⟨_, rfl, _⟩ := h; rfl) | (obtain ⟨_, _, rfl, _⟩ := h; rfl) | (obtain ⟨_, _, _, rfl, _⟩ := h; rfl) | (obtain ⟨_, _, _, _, rfl, _⟩ := h; rfl) | (obtain ⟨_, _, _, _, _, rfl, _⟩ := h; rfl) | (obtain ⟨rfl, _⟩ := h; rfl)) fun E Ψ ds Φ h => w_has_two h)) (fun _ _ _ _ _ _ us hl => match us, hl with | [_], _ => rfl)
theorem k_has_ring {P : Program} {w : World} {K : PySem.W.Frag} {mg : Str → Option Value} {base : Heap} {A : Ads} {Tb : List (Addr × Str)} (D : Dfs K mg) (T : Tx K mg A) (O : OwnC K (clA A) "Web" A.c_Web fWeb) (I : IsiC K A.c_Web) : Cl P w K mg base CX0 1 "has_ring" ["row"] (spP K (clA A) W_has_ring) :=
  df_cl D.d_has_ring (fun f fd F => ok_has_ring F T (lenP (n := 1) fun ds Φ Ψ h => by first | (obtain ⟨_, rfl | rfl, _⟩ := h <;> rfl) | (obtain ⟨_, rfl, _⟩ := h; rfl) | (obtain ⟨_, _, rfl, _⟩ := h; rfl) | (obtain ⟨_, _, _, rfl, _⟩ := h; rfl) | (obtain ⟨_, _, _, _, rfl, _⟩ := h; rfl) | (obtain ⟨_, _, _, _, _, rfl, _⟩ := h; rfl) | (obtain ⟨rfl, _⟩ := h; rfl)) (runP (n := 1) (by decide) (fun ds Φ Ψ h => by first | (obtain ⟨_, rfl | rfl, _⟩ := h <;> rfl) | (obtain ⟨_, rfl, _⟩ := h; rfl) | (obtain ⟨_, _, rfl, _⟩ := h; rfl) | (obtain ⟨_, _, _, rfl, _⟩ := h; rfl) | (obtain ⟨_, _, _, _, rfl, _⟩ := h; rfl) | (obtain ⟨_, _, _, _, _, rfl, _⟩ := h; rfl) | (obtain ⟨rfl, _⟩ := h; rfl)) fun E Ψ ds Φ h => w_has_ring h)) (fun _ _ _ _ _ _ us hl => match us, hl with | [_], _ => rfl)
theorem k_wrong_arrows {P : Program} {w : World} {K : PySem.W.Frag} {mg : Str → Option Value} {base : Heap} {A : Ads} {Tb : List (Addr × Str)} (D : Dfs K mg) (T : Tx K mg A) (O : OwnC K (clA A) "Web" A.c_Web fWeb) (I : IsiC K A.c_Web) (c_are_rows : Cl P w K mg base CX0 2 "are_rows" ["value"] (spP K (clA A) W_are_rows)) (c_is_point : Cl P w K mg base CX0 2 "is_point" ["many", "value"] (spP K (clA A) W_is_point)) (c_has_two : Cl P w K mg base CX0 1 "has_two" ["row"] (spP K (clA A) W_has_two)) (c_has_ring : Cl P w K mg base CX0 1 "has_ring" ["row"] (spP K (clA A) W_has_ring)) : Cl P w K mg base CX0 3 "wrong_arrows" ["arrows"] (spP K (clA A) W_wrong_arrows) :=
  df_cl D.d_wrong_arrows (fun f fd F => ok_wrong_arrows F T c_are_rows c_is_point c_has_two c_has_ring (lenP (n := 1) fun ds Φ Ψ h => by first | (obtain ⟨_, rfl | rfl, _⟩ := h <;> rfl) | (obtain ⟨_, rfl, _⟩ := h; rfl) | (obtain ⟨_, _, rfl, _⟩ := h; rfl) | (obtain ⟨_, _, _, rfl, _⟩ := h; rfl) | (obtain ⟨_, _, _, _, rfl, _⟩ := h; rfl) | (obtain ⟨_, _, _, _, _, rfl, _⟩ := h; rfl) | (obtain ⟨rfl, _⟩ := h; rfl)) (runP (n := 1) (by decide) (fun ds Φ Ψ h => by first | (obtain ⟨_, rfl | rfl, _⟩ := h <;> rfl) | (obtain ⟨_, rfl, _⟩ := h; rfl) | (obtain ⟨_, _, rfl, _⟩ := h; rfl) | (obtain ⟨_, _, _, rfl, _⟩ := h; rfl) | (obtain ⟨_, _, _, _, rfl, _⟩ := h; rfl) | (obtain ⟨_, _, _, _, _, rfl, _⟩ := h; rfl) | (obtain ⟨rfl, _⟩ := h; rfl)) fun E Ψ ds Φ h => w_wrong_arrows h)) (fun _ _ _ _ _ _ us hl => match us, hl with | [_], _ => rfl)
theorem k_need_web {P : Program} {w : World} {K : PySem.W.Frag} {mg : Str → Option Value} {base : Heap} {A : Ads} {Tb : List (Addr × Str)} (D : Dfs K mg) (T : Tx K mg A) (O : OwnC K (clA A) "Web" A.c_Web fWeb) (I : IsiC K A.c_Web) (c_BadItem : ClC P w K mg base A.c_BadItem 2 "BadItem" (spXI A.c_BadItem ["value"])) : Cl P w K mg base (L2.CX P w) 4 "need_web" ["web"] (spP K (clA A) W_need_web) :=
  df_cl D.d_need_web (fun f fd F => ok_need_web F T c_BadItem (lenP (n := 1) fun ds Φ Ψ h => by first | (obtain ⟨_, rfl | rfl, _⟩ := h <;> rfl) | (obtain ⟨_, rfl, _⟩ := h; rfl) | (obtain ⟨_, _, rfl, _⟩ := h; rfl) | (obtain ⟨_, _, _, rfl, _⟩ := h; rfl) | (obtain ⟨_, _, _, _, rfl, _⟩ := h; rfl) | (obtain ⟨_, _, _, _, _, rfl, _⟩ := h; rfl) | (obtain ⟨rfl, _⟩ := h; rfl)) (runP (n := 1) (by decide) (fun ds Φ Ψ h => by first | (obtain ⟨_, rfl | rfl, _⟩ := h <;> rfl) | (obtain ⟨_, rfl, _⟩ := h; rfl) | (obtain ⟨_, _, rfl, _⟩ := h; rfl) | (obtain ⟨_, _, _, rfl, _⟩ := h; rfl) | (obtain ⟨_, _, _, _, rfl, _⟩ := h; rfl) | (obtain ⟨_, _, _, _, _, rfl, _⟩ := h; rfl) | (obtain ⟨rfl, _⟩ := h; rfl)) fun E Ψ ds Φ h => w_need_web O I h)) (fun _ _ _ _ _ _ us hl => match us, hl with | [_], _ => rfl)
theorem k_backward {P : Program} {w : World} {K : PySem.W.Frag} {mg : Str → Option Value} {base : Heap} {A : Ads} {Tb : List (Addr × Str)} (D : Dfs K mg) (T : Tx K mg A) (O : OwnC K (clA A) "Web" A.c_Web fWeb) (I : IsiC K A.c_Web) : Cl P w K mg base CX0 1 "backward" ["row"] (spP K (clA A) W_backward) :=
  df_cl D.d_backward (fun f fd F => ok_backward F T (lenP (n := 1) fun ds Φ Ψ h => by first | (obtain ⟨_, rfl | rfl, _⟩ := h <;> rfl) | (obtain ⟨_, rfl, _⟩ := h; rfl) | (obtain ⟨_, _, rfl, _⟩ := h; rfl) | (obtain ⟨_, _, _, rfl, _⟩ := h; rfl) | (obtain ⟨_, _, _, _, rfl, _⟩ := h; rfl) | (obtain ⟨_, _, _, _, _, rfl, _⟩ := h; rfl) | (obtain ⟨rfl, _⟩ := h; rfl)) (runP (n := 1) (by decide) (fun ds Φ Ψ h => by first | (obtain ⟨_, rfl | rfl, _⟩ := h <;> rfl) | (obtain ⟨_, rfl, _⟩ := h; rfl) | (obtain ⟨_, _, rfl, _⟩ := h; rfl) | (obtain ⟨_, _, _, rfl, _⟩ := h; rfl) | (obtain ⟨_, _, _, _, rfl, _⟩ := h; rfl) | (obtain ⟨_, _, _, _, _, rfl, _⟩ := h; rfl) | (obtain ⟨rfl, _⟩ := h; rfl)) fun E Ψ ds Φ h => w_backward h)) (fun _ _ _ _ _ _ us hl => match us, hl with | [_], _ => rfl)
theorem k_backs_of {P : Program} {w : World} {K : PySem.W.Frag} {mg : Str → Option Value} {base : Heap} {A : Ads} {Tb : List (Addr × Str)} (D : Dfs K mg) (T : Tx K mg A) (O : OwnC K (clA A) "Web" A.c_Web fWeb) (I : IsiC K A.c_Web) (c_backward : Cl P w K mg base CX0 1 "backward" ["row"] (spP K (clA A) W_backward)) : Cl P w K mg base CX0 2 "backs_of" ["web"] (spP K (clA A) W_backs_of) :=
  df_cl D.d_backs_of (fun f fd F => ok_backs_of F T c_backward (lenP (n := 1) fun ds Φ Ψ h => by first | (obtain ⟨_, rfl | rfl, _⟩ := h <;> rfl) | (obtain ⟨_, rfl, _⟩ := h; rfl) | (obtain ⟨_, _, rfl, _⟩ := h; rfl) | (obtain ⟨_, _, _, rfl, _⟩ := h; rfl) | (obtain ⟨_, _, _, _, rfl, _⟩ := h; rfl) | (obtain ⟨_, _, _, _, _, rfl, _⟩ := h; rfl) | (obtain ⟨rfl, _⟩ := h; rfl)) (runP (n := 1) (by decide) (fun ds Φ Ψ h => by first | (obtain ⟨_, rfl | rfl, _⟩ := h <;> rfl) | (obtain ⟨_, rfl, _⟩ := h; rfl) | (obtain ⟨_, _, rfl, _⟩ := h; rfl) | (obtain ⟨_, _, _, rfl, _⟩ := h; rfl) | (obtain ⟨_, _, _, _, rfl, _⟩ := h; rfl) | (obtain ⟨_, _, _, _, _, rfl, _⟩ := h; rfl) | (obtain ⟨rfl, _⟩ := h; rfl)) fun E Ψ ds Φ h => w_backs_of O h)) (fun _ _ _ _ _ _ us hl => match us, hl with | [_], _ => rfl)
theorem k_how_far {P : Program} {w : World} {K : PySem.W.Frag} {mg : Str → Option Value} {base : Heap} {A : Ads} {Tb : List (Addr × Str)} (D : Dfs K mg) (T : Tx K mg A) (O : OwnC K (clA A) "Web" A.c_Web fWeb) (I : IsiC K A.c_Web) : Cl P w K mg base CX0 1 "how_far" ["row", "p"] (spP K (clA A) W_how_far) :=
  df_cl D.d_how_far (fun f fd F => ok_how_far F T (lenP (n := 2) fun ds Φ Ψ h => by first | (obtain ⟨_, rfl | rfl, _⟩ := h <;> rfl) | (obtain ⟨_, rfl, _⟩ := h; rfl) | (obtain ⟨_, _, rfl, _⟩ := h; rfl) | (obtain ⟨_, _, _, rfl, _⟩ := h; rfl) | (obtain ⟨_, _, _, _, rfl, _⟩ := h; rfl) | (obtain ⟨_, _, _, _, _, rfl, _⟩ := h; rfl) | (obtain ⟨rfl, _⟩ := h; rfl)) (runP (n := 2) (by decide) (fun ds Φ Ψ h => by first | (obtain ⟨_, rfl | rfl, _⟩ := h <;> rfl) | (obtain ⟨_, rfl, _⟩ := h; rfl) | (obtain ⟨_, _, rfl, _⟩ := h; rfl) | (obtain ⟨_, _, _, rfl, _⟩ := h; rfl) | (obtain ⟨_, _, _, _, rfl, _⟩ := h; rfl) | (obtain ⟨_, _, _, _, _, rfl, _⟩ := h; rfl) | (obtain ⟨rfl, _⟩ := h; rfl)) fun E Ψ ds Φ h => w_how_far h)) (fun _ _ _ _ _ _ us hl => match us, hl with | [_, _], _ => rfl)
theorem k_all_depths {P : Program} {w : World} {K : PySem.W.Frag} {mg : Str → Option Value} {base : Heap} {A : Ads} {Tb : List (Addr × Str)} (D : Dfs K mg) (T : Tx K mg A) (O : OwnC K (clA A) "Web" A.c_Web fWeb) (I : IsiC K A.c_Web) (c_backs_of : Cl P w K mg base CX0 2 "backs_of" ["web"] (spP K (clA A) W_backs_of)) (c_how_far : Cl P w K mg base CX0 1 "how_far" ["row", "p"] (spP K (clA A) W_how_far)) : Cl P w K mg base CX0 3 "all_depths" ["web"] (spP K (clA A) W_all_depths) :=
  df_cl D.d_all_depths (fun f fd F => ok_all_depths F T c_backs_of c_how_far (lenP (n := 1) fun ds Φ Ψ h => by first | (obtain ⟨_, rfl | rfl, _⟩ := h <;> rfl) | (obtain ⟨_, rfl, _⟩ := h; rfl) | (obtain ⟨_, _, rfl, _⟩ := h; rfl) | (obtain ⟨_, _, _, rfl, _⟩ := h; rfl) | (obtain ⟨_, _, _, _, rfl, _⟩ := h; rfl) | (obtain ⟨_, _, _, _, _, rfl, _⟩ := h; rfl) | (obtain ⟨rfl, _⟩ := h; rfl)) (runP (n := 1) (by decide) (fun ds Φ Ψ h => by first | (obtain ⟨_, rfl | rfl, _⟩ := h <;> rfl) | (obtain ⟨_, rfl, _⟩ := h; rfl) | (obtain ⟨_, _, rfl, _⟩ := h; rfl) | (obtain ⟨_, _, _, rfl, _⟩ := h; rfl) | (obtain ⟨_, _, _, _, rfl, _⟩ := h; rfl) | (obtain ⟨_, _, _, _, _, rfl, _⟩ := h; rfl) | (obtain ⟨rfl, _⟩ := h; rfl)) fun E Ψ ds Φ h => w_all_depths O h)) (fun _ _ _ _ _ _ us hl => match us, hl with | [_], _ => rfl)
theorem k_need_alike_colours {P : Program} {w : World} {K : PySem.W.Frag} {mg : Str → Option Value} {base : Heap} {A : Ads} {Tb : List (Addr × Str)} (D : Dfs K mg) (T : Tx K mg A) (O : OwnC K (clA A) "Web" A.c_Web fWeb) (I : IsiC K A.c_Web) (c_need_web : Cl P w K mg base (L2.CX P w) 4 "need_web" ["web"] (spP K (clA A) W_need_web)) (c_BadItem : ClC P w K mg base A.c_BadItem 2 "BadItem" (spXI A.c_BadItem ["value"])) : Cl P w K mg base (L2.CX P w) 5 "need_alike_colours" ["one", "other"] (spP K (clA A) W_need_alike_colours) :=
  df_cl D.d_need_alike_colours (fun f fd F => ok_need_alike_colours F T c_need_web c_BadItem (lenP (n := 2) fun ds Φ Ψ h => by first | (obtain ⟨_, rfl | rfl, _⟩ := h <;> rfl) | (obtain ⟨_, rfl, _⟩ := h; rfl) | (obtain ⟨_, _, rfl, _⟩ := h; rfl) | (obtain ⟨_, _, _, rfl, _⟩ := h; rfl) | (obtain ⟨_, _, _, _, rfl, _⟩ := h; rfl) | (obtain ⟨_, _, _, _, _, rfl, _⟩ := h; rfl) | (obtain ⟨rfl, _⟩ := h; rfl)) (runP (n := 2) (by decide) (fun ds Φ Ψ h => by first | (obtain ⟨_, rfl | rfl, _⟩ := h <;> rfl) | (obtain ⟨_, rfl, _⟩ := h; rfl) | (obtain ⟨_, _, rfl, _⟩ := h; rfl) | (obtain ⟨_, _, _, rfl, _⟩ := h; rfl) | (obtain ⟨_, _, _, _, rfl, _⟩ := h; rfl) | (obtain ⟨_, _, _, _, _, rfl, _⟩ := h; rfl) | (obtain ⟨rfl, _⟩ := h; rfl)) fun E Ψ ds Φ h => w_need_alike_colours O h)) (fun _ _ _ _ _ _ us hl => match us, hl with | [_, _], _ => rfl)
theorem k_joined_row {P : Program} {w : World} {K : PySem.W.Frag} {mg : Str → Option Value} {base : Heap} {A : Ads} {Tb : List (Addr × Str)} (D : Dfs K mg) (T : Tx K mg A) (O : OwnC K (clA A) "Web" A.c_Web fWeb) (I : IsiC K A.c_Web) : Cl P w K mg base CX0 1 "joined_row" ["one", "other", "i", "first", "second"] (spP K (clA A) W_joined_row) :=
  df_cl D.d_joined_row (fun f fd F => ok_joined_row F T (lenP (n := 5) fun ds Φ Ψ h => by first | (obtain ⟨_, rfl | rfl, _⟩ := h <;> rfl) | (obtain ⟨_, rfl, _⟩ := h; rfl) | (obtain ⟨_, _, rfl, _⟩ := h; rfl) | (obtain ⟨_, _, _, rfl, _⟩ := h; rfl) | (obtain ⟨_, _, _, _, rfl, _⟩ := h; rfl) | (obtain ⟨_, _, _, _, _, rfl, _⟩ := h; rfl) | (obtain ⟨rfl, _⟩ := h; rfl)) (runP (n := 5) (by decide) (fun ds Φ Ψ h => by first | (obtain ⟨_, rfl | rfl, _⟩ := h <;> rfl) | (obtain ⟨_, rfl, _⟩ := h; rfl) | (obtain ⟨_, _, rfl, _⟩ := h; rfl) | (obtain ⟨_, _, _, rfl, _⟩ := h; rfl) | (obtain ⟨_, _, _, _, rfl, _⟩ := h; rfl) | (obtain ⟨_, _, _, _, _, rfl, _⟩ := h; rfl) | (obtain ⟨rfl, _⟩ := h; rfl)) fun E Ψ ds Φ h => w_joined_row O h)) (fun _ _ _ _ _ _ us hl => match us, hl with | [_, _, _, _, _], _ => rfl)
theorem k_joined {P : Program} {w : World} {K : PySem.W.Frag} {mg : Str → Option Value} {base : Heap} {A : Ads} {Tb : List (Addr × Str)} (D : Dfs K mg) (T : Tx K mg A) (O : OwnC K (clA A) "Web" A.c_Web fWeb) (I : IsiC K A.c_Web) (c_need_alike_colours : Cl P w K mg base (L2.CX P w) 5 "need_alike_colours" ["one", "other"] (spP K (clA A) W_need_alike_colours)) (c_TooMany : ClC P w K mg base A.c_TooMany 2 "TooMany" (spXI A.c_TooMany ["what", "most"])) (c_all_depths : Cl P w K mg base CX0 3 "all_depths" ["web"] (spP K (clA A) W_all_depths)) (c_joined_row : Cl P w K mg base CX0 1 "joined_row" ["one", "other", "i", "first", "second"] (spP K (clA A) W_joined_row)) (c_Web : ClM P w K mg base (L2.CX P w) A.c_Web 4 "Web" ["self", "arrows"] (spI K (clA A) "Web" A.c_Web W_Web)) : Cl P w K mg base (L2.CX P w) 6 "joined" ["one", "other"] (spP K (clA A) W_joined) :=
  df_cl D.d_joined (fun f fd F => ok_joined F T c_need_alike_colours c_TooMany c_all_depths c_joined_row c_Web (lenP (n := 2) fun ds Φ Ψ h => by first | (obtain ⟨_, rfl | rfl, _⟩ := h <;> rfl) | (obtain ⟨_, rfl, _⟩ := h; rfl) | (obtain ⟨_, _, rfl, _⟩ := h; rfl) | (obtain ⟨_, _, _, rfl, _⟩ := h; rfl) | (obtain ⟨_, _, _, _, rfl, _⟩ := h; rfl) | (obtain ⟨_, _, _, _, _, rfl, _⟩ := h; rfl) | (obtain ⟨rfl, _⟩ := h; rfl)) (runP (n := 2) (by decide) (fun ds Φ Ψ h => by first | (obtain ⟨_, rfl | rfl, _⟩ := h <;> rfl) | (obtain ⟨_, rfl, _⟩ := h; rfl) | (obtain ⟨_, _, rfl, _⟩ := h; rfl) | (obtain ⟨_, _, _, rfl, _⟩ := h; rfl) | (obtain ⟨_, _, _, _, rfl, _⟩ := h; rfl) | (obtain ⟨_, _, _, _, _, rfl, _⟩ := h; rfl) | (obtain ⟨rfl, _⟩ := h; rfl)) fun E Ψ ds Φ h => w_joined O h)) (fun _ _ _ _ _ _ us hl => match us, hl with | [_, _], _ => rfl)
theorem k__law_pen {P : Program} {w : World} {K : PySem.W.Frag} {mg : Str → Option Value} {base : Heap} {A : Ads} {Tb : List (Addr × Str)} (D : Dfs K mg) (T : Tx K mg A) (O : OwnC K (clA A) "Web" A.c_Web fWeb) (I : IsiC K A.c_Web) : Cl P w K mg base CX0 1 "_law_pen" ["script"] (spPen K) :=
  df_cl D.d__law_pen (fun f fd F => ok__law_pen F T lenPen (fun vs H Q E h => ok_pen rfl h)) (fun _ _ _ _ _ _ us hl => match us, hl with | [_], _ => rfl)
theorem k__law_draw {P : Program} {w : World} {K : PySem.W.Frag} {mg : Str → Option Value} {base : Heap} {A : Ads} {Tb : List (Addr × Str)} (D : Dfs K mg) (T : Tx K mg A) (O : OwnC K (clA A) "Web" A.c_Web fWeb) (I : IsiC K A.c_Web) : Cl P w K mg base CX0 1 "_law_draw" ["pen", "many"] (spN K (clA A) (pkD Tb) W_draw) :=
  df_cl D.d__law_draw (fun f fd F => ok__law_draw F T (lenN (n := 2) rfl fun ds c Φ h => by first | (obtain ⟨_, rfl | rfl, _⟩ := h <;> rfl) | (obtain ⟨_, rfl, _⟩ := h; rfl) | (obtain ⟨_, _, rfl, _⟩ := h; rfl) | (obtain ⟨_, _, _, rfl, _⟩ := h; rfl) | (obtain ⟨_, _, _, _, rfl, _⟩ := h; rfl) | (obtain ⟨_, _, _, _, _, rfl, _⟩ := h; rfl) | (obtain ⟨rfl, _⟩ := h; rfl)) (fun vs H Q E h => ok_draw rfl h)) (fun _ _ _ _ _ _ us hl => match us, hl with | [_, _], _ => rfl)
theorem k__law_pick {P : Program} {w : World} {K : PySem.W.Frag} {mg : Str → Option Value} {base : Heap} {A : Ads} {Tb : List (Addr × Str)} (D : Dfs K mg) (T : Tx K mg A) (O : OwnC K (clA A) "Web" A.c_Web fWeb) (I : IsiC K A.c_Web) (c__law_draw : Cl P w K mg base CX0 1 "_law_draw" ["pen", "many"] (spN K (clA A) (pkD Tb) W_draw)) : Cl P w K mg base CX0 2 "_law_pick" ["pen", "some"] (spN K (clA A) (pkD Tb) W_pick) :=
  df_cl D.d__law_pick (fun f fd F => ok__law_pick F T c__law_draw (lenN (n := 2) rfl fun ds c Φ h => by first | (obtain ⟨_, rfl | rfl, _⟩ := h <;> rfl) | (obtain ⟨_, rfl, _⟩ := h; rfl) | (obtain ⟨_, _, rfl, _⟩ := h; rfl) | (obtain ⟨_, _, _, rfl, _⟩ := h; rfl) | (obtain ⟨_, _, _, _, rfl, _⟩ := h; rfl) | (obtain ⟨_, _, _, _, _, rfl, _⟩ := h; rfl) | (obtain ⟨rfl, _⟩ := h; rfl)) (runN (n := 2) (by decide) (fun ds c Φ h => by first | (obtain ⟨_, rfl | rfl, _⟩ := h <;> rfl) | (obtain ⟨_, rfl, _⟩ := h; rfl) | (obtain ⟨_, _, rfl, _⟩ := h; rfl) | (obtain ⟨_, _, _, rfl, _⟩ := h; rfl) | (obtain ⟨_, _, _, _, rfl, _⟩ := h; rfl) | (obtain ⟨_, _, _, _, _, rfl, _⟩ := h; rfl) | (obtain ⟨rfl, _⟩ := h; rfl)) fun E ds c Φ h => w_pick h)) (fun _ _ _ _ _ _ us hl => match us, hl with | [_, _], _ => rfl)
theorem k__law_listed {P : Program} {w : World} {K : PySem.W.Frag} {mg : Str → Option Value} {base : Heap} {A : Ads} {Tb : List (Addr × Str)} (D : Dfs K mg) (T : Tx K mg A) (O : OwnC K (clA A) "Web" A.c_Web fWeb) (I : IsiC K A.c_Web) (c__law_draw : Cl P w K mg base CX0 1 "_law_draw" ["pen", "many"] (spN K (clA A) (pkD Tb) W_draw)) : Cl P w K mg base CX0 2 "_law_listed" ["pen", "row"] (spN K (clA A) (pkD Tb) W_listed) :=
  df_cl D.d__law_listed (fun f fd F => ok__law_listed F T c__law_draw (lenN (n := 2) rfl fun ds c Φ h => by first | (obtain ⟨_, rfl | rfl, _⟩ := h <;> rfl) | (obtain ⟨_, rfl, _⟩ := h; rfl) | (obtain ⟨_, _, rfl, _⟩ := h; rfl) | (obtain ⟨_, _, _, rfl, _⟩ := h; rfl) | (obtain ⟨_, _, _, _, rfl, _⟩ := h; rfl) | (obtain ⟨_, _, _, _, _, rfl, _⟩ := h; rfl) | (obtain ⟨rfl, _⟩ := h; rfl)) (runN (n := 2) (by decide) (fun ds c Φ h => by first | (obtain ⟨_, rfl | rfl, _⟩ := h <;> rfl) | (obtain ⟨_, rfl, _⟩ := h; rfl) | (obtain ⟨_, _, rfl, _⟩ := h; rfl) | (obtain ⟨_, _, _, rfl, _⟩ := h; rfl) | (obtain ⟨_, _, _, _, rfl, _⟩ := h; rfl) | (obtain ⟨_, _, _, _, _, rfl, _⟩ := h; rfl) | (obtain ⟨rfl, _⟩ := h; rfl)) fun E ds c Φ h => w_listed h)) (fun _ _ _ _ _ _ us hl => match us, hl with | [_, _], _ => rfl)
theorem k__law_is_truth {P : Program} {w : World} {K : PySem.W.Frag} {mg : Str → Option Value} {base : Heap} {A : Ads} {Tb : List (Addr × Str)} (D : Dfs K mg) (T : Tx K mg A) (O : OwnC K (clA A) "Web" A.c_Web fWeb) (I : IsiC K A.c_Web) : Cl P w K mg base CX0 1 "_law_is_truth" ["told", "due"] (spP K (clA A) W_is_truth) :=
  df_cl D.d__law_is_truth (fun f fd F => ok__law_is_truth F T (lenP (n := 2) fun ds Φ Ψ h => by first | (obtain ⟨_, rfl | rfl, _⟩ := h <;> rfl) | (obtain ⟨_, rfl, _⟩ := h; rfl) | (obtain ⟨_, _, rfl, _⟩ := h; rfl) | (obtain ⟨_, _, _, rfl, _⟩ := h; rfl) | (obtain ⟨_, _, _, _, rfl, _⟩ := h; rfl) | (obtain ⟨_, _, _, _, _, rfl, _⟩ := h; rfl) | (obtain ⟨rfl, _⟩ := h; rfl)) (runP (n := 2) (by decide) (fun ds Φ Ψ h => by first | (obtain ⟨_, rfl | rfl, _⟩ := h <;> rfl) | (obtain ⟨_, rfl, _⟩ := h; rfl) | (obtain ⟨_, _, rfl, _⟩ := h; rfl) | (obtain ⟨_, _, _, rfl, _⟩ := h; rfl) | (obtain ⟨_, _, _, _, rfl, _⟩ := h; rfl) | (obtain ⟨_, _, _, _, _, rfl, _⟩ := h; rfl) | (obtain ⟨rfl, _⟩ := h; rfl)) fun E Ψ ds Φ h => w_is_truth h)) (fun _ _ _ _ _ _ us hl => match us, hl with | [_, _], _ => rfl)
theorem k__law_is_int {P : Program} {w : World} {K : PySem.W.Frag} {mg : Str → Option Value} {base : Heap} {A : Ads} {Tb : List (Addr × Str)} (D : Dfs K mg) (T : Tx K mg A) (O : OwnC K (clA A) "Web" A.c_Web fWeb) (I : IsiC K A.c_Web) : Cl P w K mg base CX0 1 "_law_is_int" ["value"] (spP K (clA A) W_is_integer) :=
  df_cl D.d__law_is_int (fun f fd F => ok__law_is_int F T (lenP (n := 1) fun ds Φ Ψ h => by first | (obtain ⟨_, rfl | rfl, _⟩ := h <;> rfl) | (obtain ⟨_, rfl, _⟩ := h; rfl) | (obtain ⟨_, _, rfl, _⟩ := h; rfl) | (obtain ⟨_, _, _, rfl, _⟩ := h; rfl) | (obtain ⟨_, _, _, _, rfl, _⟩ := h; rfl) | (obtain ⟨_, _, _, _, _, rfl, _⟩ := h; rfl) | (obtain ⟨rfl, _⟩ := h; rfl)) (runP (n := 1) (by decide) (fun ds Φ Ψ h => by first | (obtain ⟨_, rfl | rfl, _⟩ := h <;> rfl) | (obtain ⟨_, rfl, _⟩ := h; rfl) | (obtain ⟨_, _, rfl, _⟩ := h; rfl) | (obtain ⟨_, _, _, rfl, _⟩ := h; rfl) | (obtain ⟨_, _, _, _, rfl, _⟩ := h; rfl) | (obtain ⟨_, _, _, _, _, rfl, _⟩ := h; rfl) | (obtain ⟨rfl, _⟩ := h; rfl)) fun E Ψ ds Φ h => w_law_is_int h)) (fun _ _ _ _ _ _ us hl => match us, hl with | [_], _ => rfl)
theorem k__law_is_ints {P : Program} {w : World} {K : PySem.W.Frag} {mg : Str → Option Value} {base : Heap} {A : Ads} {Tb : List (Addr × Str)} (D : Dfs K mg) (T : Tx K mg A) (O : OwnC K (clA A) "Web" A.c_Web fWeb) (I : IsiC K A.c_Web) (c__law_is_int : Cl P w K mg base CX0 1 "_law_is_int" ["value"] (spP K (clA A) W_is_integer)) : Cl P w K mg base CX0 2 "_law_is_ints" ["value", "many"] (spP K (clA A) W_is_ints) :=
  df_cl D.d__law_is_ints (fun f fd F => ok__law_is_ints F T c__law_is_int (lenP (n := 2) fun ds Φ Ψ h => by first | (obtain ⟨_, rfl | rfl, _⟩ := h <;> rfl) | (obtain ⟨_, rfl, _⟩ := h; rfl) | (obtain ⟨_, _, rfl, _⟩ := h; rfl) | (obtain ⟨_, _, _, rfl, _⟩ := h; rfl) | (obtain ⟨_, _, _, _, rfl, _⟩ := h; rfl) | (obtain ⟨_, _, _, _, _, rfl, _⟩ := h; rfl) | (obtain ⟨rfl, _⟩ := h; rfl)) (runP (n := 2) (by decide) (fun ds Φ Ψ h => by first | (obtain ⟨_, rfl | rfl, _⟩ := h <;> rfl) | (obtain ⟨_, rfl, _⟩ := h; rfl) | (obtain ⟨_, _, rfl, _⟩ := h; rfl) | (obtain ⟨_, _, _, rfl, _⟩ := h; rfl) | (obtain ⟨_, _, _, _, rfl, _⟩ := h; rfl) | (obtain ⟨_, _, _, _, _, rfl, _⟩ := h; rfl) | (obtain ⟨rfl, _⟩ := h; rfl)) fun E Ψ ds Φ h => w_is_ints h)) (fun _ _ _ _ _ _ us hl => match us, hl with | [_, _], _ => rfl)
theorem k__law_odd_point {P : Program} {w : World} {K : PySem.W.Frag} {mg : Str → Option Value} {base : Heap} {A : Ads} {Tb : List (Addr × Str)} (D : Dfs K mg) (T : Tx K mg A) (O : OwnC K (clA A) "Web" A.c_Web fWeb) (I : IsiC K A.c_Web) (c__law_pick : Cl P w K mg base CX0 2 "_law_pick" ["pen", "some"] (spN K (clA A) (pkD Tb) W_pick)) : Cl P w K mg base CX0 3 "_law_odd_point" ["pen", "many"] (spN K (clA A) (pkD Tb) W_odd_point) :=
  df_cl D.d__law_odd_point (fun f fd F => ok__law_odd_point F T c__law_pick (lenN (n := 2) rfl fun ds c Φ h => by first | (obtain ⟨_, rfl | rfl, _⟩ := h <;> rfl) | (obtain ⟨_, rfl, _⟩ := h; rfl) | (obtain ⟨_, _, rfl, _⟩ := h; rfl) | (obtain ⟨_, _, _, rfl, _⟩ := h; rfl) | (obtain ⟨_, _, _, _, rfl, _⟩ := h; rfl) | (obtain ⟨_, _, _, _, _, rfl, _⟩ := h; rfl) | (obtain ⟨rfl, _⟩ := h; rfl)) (runN (n := 2) (by decide) (fun ds c Φ h => by first | (obtain ⟨_, rfl | rfl, _⟩ := h <;> rfl) | (obtain ⟨_, rfl, _⟩ := h; rfl) | (obtain ⟨_, _, rfl, _⟩ := h; rfl) | (obtain ⟨_, _, _, rfl, _⟩ := h; rfl) | (obtain ⟨_, _, _, _, rfl, _⟩ := h; rfl) | (obtain ⟨_, _, _, _, _, rfl, _⟩ := h; rfl) | (obtain ⟨rfl, _⟩ := h; rfl)) fun E ds c Φ h => w_odd_point h)) (fun _ _ _ _ _ _ us hl => match us, hl with | [_, _], _ => rfl)
theorem k__law_left {P : Program} {w : World} {K : PySem.W.Frag} {mg : Str → Option Value} {base : Heap} {A : Ads} {Tb : List (Addr × Str)} (D : Dfs K mg) (T : Tx K mg A) (O : OwnC K (clA A) "Web" A.c_Web fWeb) (I : IsiC K A.c_Web) (c__law_pick : Cl P w K mg base CX0 2 "_law_pick" ["pen", "some"] (spN K (clA A) (pkD Tb) W_pick)) : Cl P w K mg base CX0 3 "_law_left" ["pen", "word", "i"] (spN K (clA A) (pkD Tb) W_left) :=
  df_cl D.d__law_left (fun f fd F => ok__law_left F T c__law_pick (lenN (n := 3) rfl fun ds c Φ h => by first | (obtain ⟨_, rfl | rfl, _⟩ := h <;> rfl) | (obtain ⟨_, rfl, _⟩ := h; rfl) | (obtain ⟨_, _, rfl, _⟩ := h; rfl) | (obtain ⟨_, _, _, rfl, _⟩ := h; rfl) | (obtain ⟨_, _, _, _, rfl, _⟩ := h; rfl) | (obtain ⟨_, _, _, _, _, rfl, _⟩ := h; rfl) | (obtain ⟨rfl, _⟩ := h; rfl)) (runN (n := 3) (by decide) (fun ds c Φ h => by first | (obtain ⟨_, rfl | rfl, _⟩ := h <;> rfl) | (obtain ⟨_, rfl, _⟩ := h; rfl) | (obtain ⟨_, _, rfl, _⟩ := h; rfl) | (obtain ⟨_, _, _, rfl, _⟩ := h; rfl) | (obtain ⟨_, _, _, _, rfl, _⟩ := h; rfl) | (obtain ⟨_, _, _, _, _, rfl, _⟩ := h; rfl) | (obtain ⟨rfl, _⟩ := h; rfl)) fun E ds c Φ h => w_law_left h)) (fun _ _ _ _ _ _ us hl => match us, hl with | [_, _, _], _ => rfl)
theorem k__law_with {P : Program} {w : World} {K : PySem.W.Frag} {mg : Str → Option Value} {base : Heap} {A : Ads} {Tb : List (Addr × Str)} (D : Dfs K mg) (T : Tx K mg A) (O : OwnC K (clA A) "Web" A.c_Web fWeb) (I : IsiC K A.c_Web) : Cl P w K mg base CX0 1 "_law_with" ["word", "index", "letter"] (spP K (clA A) W_with) :=
  df_cl D.d__law_with (fun f fd F => ok__law_with F T (lenP (n := 3) fun ds Φ Ψ h => by first | (obtain ⟨_, rfl | rfl, _⟩ := h <;> rfl) | (obtain ⟨_, rfl, _⟩ := h; rfl) | (obtain ⟨_, _, rfl, _⟩ := h; rfl) | (obtain ⟨_, _, _, rfl, _⟩ := h; rfl) | (obtain ⟨_, _, _, _, rfl, _⟩ := h; rfl) | (obtain ⟨_, _, _, _, _, rfl, _⟩ := h; rfl) | (obtain ⟨rfl, _⟩ := h; rfl)) (runP (n := 3) (by decide) (fun ds Φ Ψ h => by first | (obtain ⟨_, rfl | rfl, _⟩ := h <;> rfl) | (obtain ⟨_, rfl, _⟩ := h; rfl) | (obtain ⟨_, _, rfl, _⟩ := h; rfl) | (obtain ⟨_, _, _, rfl, _⟩ := h; rfl) | (obtain ⟨_, _, _, _, rfl, _⟩ := h; rfl) | (obtain ⟨_, _, _, _, _, rfl, _⟩ := h; rfl) | (obtain ⟨rfl, _⟩ := h; rfl)) fun E Ψ ds Φ h => w_with h)) (fun _ _ _ _ _ _ us hl => match us, hl with | [_, _, _], _ => rfl)
theorem k__law_word_right {P : Program} {w : World} {K : PySem.W.Frag} {mg : Str → Option Value} {base : Heap} {A : Ads} {Tb : List (Addr × Str)} (D : Dfs K mg) (T : Tx K mg A) (O : OwnC K (clA A) "Web" A.c_Web fWeb) (I : IsiC K A.c_Web) (c__law_listed : Cl P w K mg base CX0 2 "_law_listed" ["pen", "row"] (spN K (clA A) (pkD Tb) W_listed)) (c__law_left : Cl P w K mg base CX0 3 "_law_left" ["pen", "word", "i"] (spN K (clA A) (pkD Tb) W_left)) (c_lower_word : Cl P w K mg base (L2.CX P w) 6 "lower_word" ["n", "word", "i"] (spP K (clA A) W_lower_word)) (c_raise_word : Cl P w K mg base (L2.CX P w) 6 "raise_word" ["n", "word", "i"] (spP K (clA A) W_raise_word)) (c__law_with : Cl P w K mg base CX0 1 "_law_with" ["word", "index", "letter"] (spP K (clA A) W_with)) (c_word_depths : Cl P w K mg base (L2.CX P w) 6 "word_depths" ["n", "word", "i"] (spP K (clA A) W_word_depths)) (c__law_is_ints : Cl P w K mg base CX0 2 "_law_is_ints" ["value", "many"] (spP K (clA A) W_is_ints)) (c_word_weight : Cl P w K mg base (L2.CX P w) 5 "word_weight" ["n", "word"] (spP K (clA A) W_word_weight)) (c__law_is_truth : Cl P w K mg base CX0 1 "_law_is_truth" ["told", "due"] (spP K (clA A) W_is_truth)) (c_is_high_word : Cl P w K mg base (L2.CX P w) 5 "is_high_word" ["n", "word"] (spP K (clA A) W_is_high_word)) : Cl P w K mg base CX0 7 "_law_word_right" ["pen", "n", "word"] (spN K (clA A) (pkD Tb) W_word_right) :=
  df_cl D.d__law_word_right (fun f fd F => ok__law_word_right F T c__law_listed c__law_left c_lower_word c_raise_word c__law_with c_word_depths c__law_is_ints c_word_weight c__law_is_truth c_is_high_word (lenN (n := 3) rfl fun ds c Φ h => by first | (obtain ⟨_, rfl | rfl, _⟩ := h <;> rfl) | (obtain ⟨_, rfl, _⟩ := h; rfl) | (obtain ⟨_, _, rfl, _⟩ := h; rfl) | (obtain ⟨_, _, _, rfl, _⟩ := h; rfl) | (obtain ⟨_, _, _, _, rfl, _⟩ := h; rfl) | (obtain ⟨_, _, _, _, _, rfl, _⟩ := h; rfl) | (obtain ⟨rfl, _⟩ := h; rfl)) (runN (n := 3) (by decide) (fun ds c Φ h => by first | (obtain ⟨_, rfl | rfl, _⟩ := h <;> rfl) | (obtain ⟨_, rfl, _⟩ := h; rfl) | (obtain ⟨_, _, rfl, _⟩ := h; rfl) | (obtain ⟨_, _, _, rfl, _⟩ := h; rfl) | (obtain ⟨_, _, _, _, rfl, _⟩ := h; rfl) | (obtain ⟨_, _, _, _, _, rfl, _⟩ := h; rfl) | (obtain ⟨rfl, _⟩ := h; rfl)) fun E ds c Φ h => w_word_right h)) (fun _ _ _ _ _ _ us hl => match us, hl with | [_, _, _], _ => rfl)
theorem k__law_joined_right {P : Program} {w : World} {K : PySem.W.Frag} {mg : Str → Option Value} {base : Heap} {A : Ads} {Tb : List (Addr × Str)} (D : Dfs K mg) (T : Tx K mg A) (O : OwnC K (clA A) "Web" A.c_Web fWeb) (I : IsiC K A.c_Web) (c_Web : ClM P w K mg base (L2.CX P w) A.c_Web 4 "Web" ["self", "arrows"] (spI K (clA A) "Web" A.c_Web W_Web)) (c__law_draw : Cl P w K mg base CX0 1 "_law_draw" ["pen", "many"] (spN K (clA A) (pkD Tb) W_draw)) (c_joined : Cl P w K mg base (L2.CX P w) 6 "joined" ["one", "other"] (spP K (clA A) W_joined)) (c_lower_word : Cl P w K mg base (L2.CX P w) 6 "lower_word" ["n", "word", "i"] (spP K (clA A) W_lower_word)) : Cl P w K mg base CX0 7 "_law_joined_right" ["pen", "n"] (spN K (clA A) (pkD Tb) W_joined_right) :=
  df_cl D.d__law_joined_right (fun f fd F => ok__law_joined_right F T c_Web c__law_draw c_joined c_lower_word (lenN (n := 2) rfl fun ds c Φ h => by first | (obtain ⟨_, rfl | rfl, _⟩ := h <;> rfl) | (obtain ⟨_, rfl, _⟩ := h; rfl) | (obtain ⟨_, _, rfl, _⟩ := h; rfl) | (obtain ⟨_, _, _, rfl, _⟩ := h; rfl) | (obtain ⟨_, _, _, _, rfl, _⟩ := h; rfl) | (obtain ⟨_, _, _, _, _, rfl, _⟩ := h; rfl) | (obtain ⟨rfl, _⟩ := h; rfl)) (runN (n := 2) (by decide) (fun ds c Φ h => by first | (obtain ⟨_, rfl | rfl, _⟩ := h <;> rfl) | (obtain ⟨_, rfl, _⟩ := h; rfl) | (obtain ⟨_, _, rfl, _⟩ := h; rfl) | (obtain ⟨_, _, _, rfl, _⟩ := h; rfl) | (obtain ⟨_, _, _, _, rfl, _⟩ := h; rfl) | (obtain ⟨_, _, _, _, _, rfl, _⟩ := h; rfl) | (obtain ⟨rfl, _⟩ := h; rfl)) fun E ds c Φ h => w_joined_right O h)) (fun _ _ _ _ _ _ us hl => match us, hl with | [_, _], _ => rfl)
end P75
set_option Elab.async false
set_option linter.all false
set_option maxRecDepth 100000
set_option maxHeartbeats 4000000
namespace P75
open PySem L2 Evl DL RZ
section
variable {P : Program} {w : World} {K : PySem.W.Frag} {mg : Str → Option Value} {base : Heap} {A : Ads} {Tb : List (Addr × Str)} {Pt : Addr}
theorem k_Web (D : ∃ f fd, Fun K "__init__" "Web.__init__" s_Web_init f fd ∧ Mk K A.c_Web f ∧ mg "Web" = some (.ref A.c_Web)) (T : Tx K mg A) (O : OwnC K (clA A) "Web" A.c_Web fWeb) (c1 : Cl P w K mg base CX0 3 "wrong_arrows" ["arrows"] (spP K (clA A) W_wrong_arrows)) {X5 : Sp} (c2 : ClC P w K mg base A.c_BadWeb 2 "BadWeb" X5) :
    ClM P w K mg base (L2.CX P w) A.c_Web 4 "Web" ["self", "arrows"] (spI K (clA A) "Web" A.c_Web W_Web) := by
  obtain ⟨f, fd, F, M, hm⟩ := D
  have hl : ∀ vs H Q E, spI K (clA A) "Web" A.c_Web W_Web vs H Q E → vs.length = 2 := fun vs H Q E h => by
    obtain ⟨a, dx, us, G, ds, Φ, Ψ, rfl, ha, ga, eg, r, ⟨rs, rfl, _⟩, _⟩ := h
    have := r.length
    simp only [List.length_cons, List.length_nil] at this ⊢
    omega
  refine ⟨f, fd, ok_Web_init F T c1 c2 hl (fun vs H Q E h => spI_ok h (by rw [hl vs H Q E h]; decide) fun ds Φ Ψ k => ?_), M, hm, F.binds (fun _ _ _ _ _ _ us hl => match us, hl with | [_, _], _ => rfl)⟩
  obtain ⟨rs, rfl, ho, k⟩ := k
  exact ⟨webS rs, rfl, w_Web_init O rfl ho k⟩
theorem k_errors {f : Addr} {fd : FuncData} (F : Fun K "_law_errors_right" "_law_errors_right" s__law_errors_right f fd) (hm0 : mg "_law_errors_right" = some (.ref f)) (T : Tx K mg A) (c1 : Cl P w K mg base CX0 2 "_law_pick" ["pen", "some"] (spN K (clA A) (pkD Tb) W_pick)) (c2 : Cl P w K mg base CX0 1 "_law_draw" ["pen", "many"] (spN K (clA A) (pkD Tb) W_draw))
    (c3 : Cl P w K mg base CX0 3 "_law_odd_point" ["pen", "many"] (spN K (clA A) (pkD Tb) W_odd_point)) (c4 : Cl P w K mg base (L2.CX P w) 6 "lower_word" ["n", "word", "i"] (spP K (clA A) W_lower_word)) (c5 : Cl P w K mg base (L2.CX P w) 6 "raise_word" ["n", "word", "i"] (spP K (clA A) W_raise_word))
    (c6 : Cl P w K mg base (L2.CX P w) 6 "word_depths" ["n", "word", "i"] (spP K (clA A) W_word_depths)) (c7 : Cl P w K mg base (L2.CX P w) 5 "word_weight" ["n", "word"] (spP K (clA A) W_word_weight)) (c8 : Cl P w K mg base (L2.CX P w) 5 "is_high_word" ["n", "word"] (spP K (clA A) W_is_high_word))
    (HX : HxC K mg (hs__law_heard A)) (HC : HsC K (clA A) (hs__law_heard A)) (ch : ClH K mg "_law_heard" s__law_heard "call") (tb : ∃ c, LamX.TabB base mg c Pt ∧ fd.code = .ref c) (hm : (Pt, (("_law_errors_right" ++ ".<locals>." ++ "<lambda>") : Str)) ∈ Tb) (hu : ∀ p ∈ Tb, p.1 = Pt → p.2 = (("_law_errors_right" ++ ".<locals>." ++ "<lambda>") : Str)) :
    ClG P w K mg base 9 "_law_errors_right" ["pen", "n", "word"] (spN K (clA A) (pkD Tb) W_errors) := by
  have hl : ∀ ds c Φ, W_errors ds c Φ → ds.length + 1 = 3 := fun ds c Φ h => by
    obtain ⟨_, _, rfl, _⟩ := h
    rfl
  exact ⟨f, fd, ok__law_errors_right F T c1 c2 c3 c4 c5 c6 c7 c8 HX ch tb hm hu (lenN rfl hl) (runN (n := 3) (by decide) hl fun E ds c Φ h => w_errors_right rfl hm HC h), hm0, F.kp, F.binds (fun _ _ _ _ _ _ us hl => match us, hl with | [_, _, _], _ => rfl)⟩
theorem k_law {f : Addr} {fd : FuncData} (F : Fun K "law" "law" s_law f fd) (T : Tx K mg A) (c0 : Cl P w K mg base CX0 1 "_law_pen" ["script"] (spPen K)) (c1 : Cl P w K mg base CX0 1 "_law_draw" ["pen", "many"] (spN K (clA A) (pkD Tb) W_draw))
    (c2 : Cl P w K mg base CX0 7 "_law_word_right" ["pen", "n", "word"] (spN K (clA A) (pkD Tb) W_word_right)) (c3 : Cl P w K mg base CX0 7 "_law_joined_right" ["pen", "n"] (spN K (clA A) (pkD Tb) W_joined_right)) (c4 : ClG P w K mg base 9 "_law_errors_right" ["pen", "n", "word"] (spN K (clA A) (pkD Tb) W_errors)) :
    FnOkG P w K mg base 10 f fd ["script"] (spLaw K Tb) ∧ Binds K fd ["script"] [] :=
  ⟨ok_law F T c0 c1 c2 c3 c4 (fun vs H Q E h => by obtain ⟨a, ns, rfl, _⟩ := h; rfl) (fun vs H Q E h => w_law h), F.binds (fun _ _ _ _ _ _ us hl => match us, hl with | [_], _ => rfl)⟩
end
end P75
set_option Elab.async false
set_option linter.all false
set_option maxRecDepth 100000
set_option maxHeartbeats 4000000
namespace P75
open PySem L2 Evl DL RZ
theorem mem_of_lookup {α : Type} {x : Str} {v : α} : ∀ {l : List (Str × α)}, l.lookup x = some v → (x, v) ∈ l
  | [], h => by simp at h
  | (y, u) :: l, h => by
    rw [List.lookup_cons] at h
    by_cases e : x == y
    · rw [e] at h
      have : x = y := by simpa using e
      cases h
      rw [this]
      exact List.mem_cons_self
    · rw [Bool.not_eq_true] at e
      rw [e] at h
      exact List.mem_cons_of_mem _ (mem_of_lookup h)
theorem only_by {sc : Scope} (h : ∀ y ∈ sc.names, y.2 = .free → y.1 = "__class__") (x : Str) (hx : sc.names.lookup x = some .free) : x = "__class__" := h _ (mem_of_lookup hx) rfl
/-- what the text says of an error class -/
structure ErrC (P : Program) (K : PySem.W.Frag) (mg : Str → Option Value) (x qual : Str) (st : Stmt) (C : Addr) (fns : List Str) : Prop where
  ex : ∃ (f cda cc : Addr) (oc dV kV doc pm ct : Value) (an od : Option Addr) (osl : Array (Option Value)), DLI.SupC P K mg C cc cda fns ∧ K.lookup f = some ⟨oc, od, .func (PySem.W.ksFn "__init__" qual (defArgs st) (defBody st) (defScope st) dV kV doc pm an (.ref cda) ct cc), osl⟩ ∧ PySem.W.codeIn K (.ref cda) qual = true ∧
    PySem.W.findIn K (.ref C) "__init__" = some (some (.ref f)) ∧ PySem.W.typeIn K (.ref f) = some (.type "function") ∧ dV = .none
  mg : mg x = some (.ref C)
abbrev e_BadNumber : Stmt := inClass (top 2) 0
theorem ss_BadNumber : DLI.SupS ["self", "what", "value"] (defScope e_BadNumber) := ⟨rfl, rfl, rfl, by decide +kernel, by decide +kernel, by decide +kernel, rfl, rfl, only_by (by decide +kernel)⟩
theorem k_BadNumber {P : Program} {w : World} {K : PySem.W.Frag} {mg : Str → Option Value} {base : Heap} {A : Ads} (D : ErrC P K mg "BadNumber" "BadNumber.__init__" e_BadNumber A.c_BadNumber ["what", "value"]) : ClC P w K mg base A.c_BadNumber 2 "BadNumber" (spXI A.c_BadNumber ["what", "value"]) := by
  obtain ⟨⟨f, cda, cc, oc, dV, kV, doc, pm, ct, an, od, osl, S, lk, hcd, hi, ht, rfl⟩, hm⟩ := D
  have F := DLI.sup_fn (w := w) (base := base) (fns := ["what", "value"]) (ps := ["self", "what", "value"]) ss_BadNumber S lk hcd rfl rfl rfl
    (ta := (tCons (tVar 1) (tCons (tVar 2) tNil))) (t := (tSeq (tOst K "what" (tVar 0) (tVar 1)) (tOst K "value" (tVar 0) (tVar 2))))
    (fun A outer s H xe => (pa_cons (pv 1) (pa_cons (pv 2) pa_nil))) (fun A outer s H xe => (pss_cons (ps_ost (pv 0) (pv 1)) (pss_one (ps_ost (pv 0) (pv 2))))) ?_ ?_ (fun _ => rfl) (fun _ => rfl) (fun _ => rfl) (fun _ => rfl)
  · exact ⟨f, _, ["self", "what", "value"], S.ox, hi, ht, F.mono (by decide), .all (fun us hl => match us, hl with | [_, _, _], _ => rfl), hm⟩
  · intro a us H hl
    match us, hl with
    | [u, v], _ => exact ⟨u, rfl, v, rfl, rfl, by simp⟩
  · intro a us H Q hl ha k
    match us, hl with
    | [u, v], _ =>
      refine ⟨u, rfl, .ref a, rfl, a, A.c_BadNumber, rfl, S.ox, S.no _ List.mem_cons_self, .inl ⟨ha, fun dx h1 h2 => ⟨v, rfl, .ref a, rfl, a, A.c_BadNumber, rfl, S.ox, S.no _ (.tail _ List.mem_cons_self), .inr ⟨dx, _, upd_same, by rw [upd_ne h2, upd_same], by simp, ?_⟩⟩⟩⟩
      have e : upd (upd (upd H dx (exd dx [("what", u)])) a (exo a A.c_BadNumber (some dx))) dx (exd dx [("value", v), ("what", u)]) = upd (upd H dx (exd dx [("value", v), ("what", u)])) a (exo a A.c_BadNumber (some dx)) := by
        funext b
        by_cases hb : b = dx
        · rw [hb, upd_same, upd_ne h2, upd_same]
        · rw [upd_ne hb]
          by_cases hba : b = a
          · rw [hba, upd_same, upd_same]
          · rw [upd_ne hba, upd_ne hb, upd_ne hba, upd_ne hb]
      rw [e]
      exact k dx h1 h2
abbrev e_BadItem : Stmt := inClass (top 3) 0
theorem ss_BadItem : DLI.SupS ["self", "value"] (defScope e_BadItem) := ⟨rfl, rfl, rfl, by decide +kernel, by decide +kernel, by decide +kernel, rfl, rfl, only_by (by decide +kernel)⟩
theorem k_BadItem {P : Program} {w : World} {K : PySem.W.Frag} {mg : Str → Option Value} {base : Heap} {A : Ads} (D : ErrC P K mg "BadItem" "BadItem.__init__" e_BadItem A.c_BadItem ["value"]) : ClC P w K mg base A.c_BadItem 2 "BadItem" (spXI A.c_BadItem ["value"]) := by
  obtain ⟨⟨f, cda, cc, oc, dV, kV, doc, pm, ct, an, od, osl, S, lk, hcd, hi, ht, rfl⟩, hm⟩ := D
  have F := DLI.sup_fn (w := w) (base := base) (fns := ["value"]) (ps := ["self", "value"]) ss_BadItem S lk hcd rfl rfl rfl
    (ta := (tCons (tVar 1) tNil)) (t := (tOst K "value" (tVar 0) (tVar 1)))
    (fun A outer s H xe => (pa_cons (pv 1) pa_nil)) (fun A outer s H xe => (pss_one (ps_ost (pv 0) (pv 1)))) ?_ ?_ (fun _ => rfl) (fun _ => rfl) (fun _ => rfl) (fun _ => rfl)
  · exact ⟨f, _, ["self", "value"], S.ox, hi, ht, F.mono (by decide), .all (fun us hl => match us, hl with | [_, _], _ => rfl), hm⟩
  · intro a us H hl
    match us, hl with
    | [u], _ => exact ⟨u, rfl, rfl, by simp⟩
  · intro a us H Q hl ha k
    match us, hl with
    | [u], _ =>
      exact ⟨u, rfl, .ref a, rfl, a, A.c_BadItem, rfl, S.ox, S.no _ List.mem_cons_self, .inl ⟨ha, fun dx h1 h2 => k dx h1 h2⟩⟩
abbrev e_TooMany : Stmt := inClass (top 4) 0
theorem ss_TooMany : DLI.SupS ["self", "what", "most"] (defScope e_TooMany) := ⟨rfl, rfl, rfl, by decide +kernel, by decide +kernel, by decide +kernel, rfl, rfl, only_by (by decide +kernel)⟩
theorem k_TooMany {P : Program} {w : World} {K : PySem.W.Frag} {mg : Str → Option Value} {base : Heap} {A : Ads} (D : ErrC P K mg "TooMany" "TooMany.__init__" e_TooMany A.c_TooMany ["what", "most"]) : ClC P w K mg base A.c_TooMany 2 "TooMany" (spXI A.c_TooMany ["what", "most"]) := by
  obtain ⟨⟨f, cda, cc, oc, dV, kV, doc, pm, ct, an, od, osl, S, lk, hcd, hi, ht, rfl⟩, hm⟩ := D
  have F := DLI.sup_fn (w := w) (base := base) (fns := ["what", "most"]) (ps := ["self", "what", "most"]) ss_TooMany S lk hcd rfl rfl rfl
    (ta := (tCons (tVar 1) (tCons (tVar 2) tNil))) (t := (tSeq (tOst K "what" (tVar 0) (tVar 1)) (tOst K "most" (tVar 0) (tVar 2))))
    (fun A outer s H xe => (pa_cons (pv 1) (pa_cons (pv 2) pa_nil))) (fun A outer s H xe => (pss_cons (ps_ost (pv 0) (pv 1)) (pss_one (ps_ost (pv 0) (pv 2))))) ?_ ?_ (fun _ => rfl) (fun _ => rfl) (fun _ => rfl) (fun _ => rfl)
  · exact ⟨f, _, ["self", "what", "most"], S.ox, hi, ht, F.mono (by decide), .all (fun us hl => match us, hl with | [_, _, _], _ => rfl), hm⟩
  · intro a us H hl
    match us, hl with
    | [u, v], _ => exact ⟨u, rfl, v, rfl, rfl, by simp⟩
  · intro a us H Q hl ha k
    match us, hl with
    | [u, v], _ =>
      refine ⟨u, rfl, .ref a, rfl, a, A.c_TooMany, rfl, S.ox, S.no _ List.mem_cons_self, .inl ⟨ha, fun dx h1 h2 => ⟨v, rfl, .ref a, rfl, a, A.c_TooMany, rfl, S.ox, S.no _ (.tail _ List.mem_cons_self), .inr ⟨dx, _, upd_same, by rw [upd_ne h2, upd_same], by simp, ?_⟩⟩⟩⟩
      have e : upd (upd (upd H dx (exd dx [("what", u)])) a (exo a A.c_TooMany (some dx))) dx (exd dx [("most", v), ("what", u)]) = upd (upd H dx (exd dx [("most", v), ("what", u)])) a (exo a A.c_TooMany (some dx)) := by
        funext b
        by_cases hb : b = dx
        · rw [hb, upd_same, upd_ne h2, upd_same]
        · rw [upd_ne hb]
          by_cases hba : b = a
          · rw [hba, upd_same, upd_same]
          · rw [upd_ne hba, upd_ne hb, upd_ne hba, upd_ne hb]
      rw [e]
      exact k dx h1 h2
abbrev e_BadColour : Stmt := inClass (top 5) 0
theorem ss_BadColour : DLI.SupS ["self", "value"] (defScope e_BadColour) := ⟨rfl, rfl, rfl, by decide +kernel, by decide +kernel, by decide +kernel, rfl, rfl, only_by (by decide +kernel)⟩
theorem k_BadColour {P : Program} {w : World} {K : PySem.W.Frag} {mg : Str → Option Value} {base : Heap} {A : Ads} (D : ErrC P K mg "BadColour" "BadColour.__init__" e_BadColour A.c_BadColour ["value"]) : ClC P w K mg base A.c_BadColour 2 "BadColour" (spXI A.c_BadColour ["value"]) := by
  obtain ⟨⟨f, cda, cc, oc, dV, kV, doc, pm, ct, an, od, osl, S, lk, hcd, hi, ht, rfl⟩, hm⟩ := D
  have F := DLI.sup_fn (w := w) (base := base) (fns := ["value"]) (ps := ["self", "value"]) ss_BadColour S lk hcd rfl rfl rfl
    (ta := (tCons (tVar 1) tNil)) (t := (tOst K "value" (tVar 0) (tVar 1)))
    (fun A outer s H xe => (pa_cons (pv 1) pa_nil)) (fun A outer s H xe => (pss_one (ps_ost (pv 0) (pv 1)))) ?_ ?_ (fun _ => rfl) (fun _ => rfl) (fun _ => rfl) (fun _ => rfl)
  · exact ⟨f, _, ["self", "value"], S.ox, hi, ht, F.mono (by decide), .all (fun us hl => match us, hl with | [_, _], _ => rfl), hm⟩
  · intro a us H hl
    match us, hl with
    | [u], _ => exact ⟨u, rfl, rfl, by simp⟩
  · intro a us H Q hl ha k
    match us, hl with
    | [u], _ =>
      exact ⟨u, rfl, .ref a, rfl, a, A.c_BadColour, rfl, S.ox, S.no _ List.mem_cons_self, .inl ⟨ha, fun dx h1 h2 => k dx h1 h2⟩⟩
abbrev e_BadWeb : Stmt := inClass (top 6) 0
theorem ss_BadWeb : DLI.SupS ["self", "why"] (defScope e_BadWeb) := ⟨rfl, rfl, rfl, by decide +kernel, by decide +kernel, by decide +kernel, rfl, rfl, only_by (by decide +kernel)⟩
theorem k_BadWeb {P : Program} {w : World} {K : PySem.W.Frag} {mg : Str → Option Value} {base : Heap} {A : Ads} (D : ErrC P K mg "BadWeb" "BadWeb.__init__" e_BadWeb A.c_BadWeb ["why"]) : ClC P w K mg base A.c_BadWeb 2 "BadWeb" (spXI A.c_BadWeb ["why"]) := by
  obtain ⟨⟨f, cda, cc, oc, dV, kV, doc, pm, ct, an, od, osl, S, lk, hcd, hi, ht, rfl⟩, hm⟩ := D
  have F := DLI.sup_fn (w := w) (base := base) (fns := ["why"]) (ps := ["self", "why"]) ss_BadWeb S lk hcd rfl rfl rfl
    (ta := (tCons (tVar 1) tNil)) (t := (tOst K "why" (tVar 0) (tVar 1)))
    (fun A outer s H xe => (pa_cons (pv 1) pa_nil)) (fun A outer s H xe => (pss_one (ps_ost (pv 0) (pv 1)))) ?_ ?_ (fun _ => rfl) (fun _ => rfl) (fun _ => rfl) (fun _ => rfl)
  · exact ⟨f, _, ["self", "why"], S.ox, hi, ht, F.mono (by decide), .all (fun us hl => match us, hl with | [_, _], _ => rfl), hm⟩
  · intro a us H hl
    match us, hl with
    | [u], _ => exact ⟨u, rfl, rfl, by simp⟩
  · intro a us H Q hl ha k
    match us, hl with
    | [u], _ =>
      exact ⟨u, rfl, .ref a, rfl, a, A.c_BadWeb, rfl, S.ox, S.no _ List.mem_cons_self, .inl ⟨ha, fun dx h1 h2 => k dx h1 h2⟩⟩
abbrev e_BadLetters : Stmt := inClass (top 7) 0
theorem ss_BadLetters : DLI.SupS ["self", "index"] (defScope e_BadLetters) := ⟨rfl, rfl, rfl, by decide +kernel, by decide +kernel, by decide +kernel, rfl, rfl, only_by (by decide +kernel)⟩
theorem k_BadLetters {P : Program} {w : World} {K : PySem.W.Frag} {mg : Str → Option Value} {base : Heap} {A : Ads} (D : ErrC P K mg "BadLetters" "BadLetters.__init__" e_BadLetters A.c_BadLetters ["index"]) : ClC P w K mg base A.c_BadLetters 2 "BadLetters" (spXI A.c_BadLetters ["index"]) := by
  obtain ⟨⟨f, cda, cc, oc, dV, kV, doc, pm, ct, an, od, osl, S, lk, hcd, hi, ht, rfl⟩, hm⟩ := D
  have F := DLI.sup_fn (w := w) (base := base) (fns := ["index"]) (ps := ["self", "index"]) ss_BadLetters S lk hcd rfl rfl rfl
    (ta := (tCons (tVar 1) tNil)) (t := (tOst K "index" (tVar 0) (tVar 1)))
    (fun A outer s H xe => (pa_cons (pv 1) pa_nil)) (fun A outer s H xe => (pss_one (ps_ost (pv 0) (pv 1)))) ?_ ?_ (fun _ => rfl) (fun _ => rfl) (fun _ => rfl) (fun _ => rfl)
  · exact ⟨f, _, ["self", "index"], S.ox, hi, ht, F.mono (by decide), .all (fun us hl => match us, hl with | [_, _], _ => rfl), hm⟩
  · intro a us H hl
    match us, hl with
    | [u], _ => exact ⟨u, rfl, rfl, by simp⟩
  · intro a us H Q hl ha k
    match us, hl with
    | [u], _ =>
      exact ⟨u, rfl, .ref a, rfl, a, A.c_BadLetters, rfl, S.ox, S.no _ List.mem_cons_self, .inl ⟨ha, fun dx h1 h2 => k dx h1 h2⟩⟩
end P75
set_option Elab.async false
set_option linter.all false
set_option maxRecDepth 100000
set_option maxHeartbeats 4000000
namespace P75
open PySem L2 Evl DL RZ
theorem chain {P : Program} {w : World} {K : PySem.W.Frag} {mg : Str → Option Value} {base : Heap} {A : Ads} {Pt c : Addr} {fe fl : Addr} {fde fdl : FuncData} (D : Dfs K mg) (T : Tx K mg A) (O : OwnC K (clA A) "Web" A.c_Web fWeb) (I : IsiC K A.c_Web) (e_BadNumber : ErrC P K mg "BadNumber" "BadNumber.__init__" e_BadNumber A.c_BadNumber ["what", "value"]) (e_BadItem : ErrC P K mg "BadItem" "BadItem.__init__" e_BadItem A.c_BadItem ["value"]) (e_TooMany : ErrC P K mg "TooMany" "TooMany.__init__" e_TooMany A.c_TooMany ["what", "most"]) (e_BadColour : ErrC P K mg "BadColour" "BadColour.__init__" e_BadColour A.c_BadColour ["value"]) (e_BadWeb : ErrC P K mg "BadWeb" "BadWeb.__init__" e_BadWeb A.c_BadWeb ["why"]) (e_BadLetters : ErrC P K mg "BadLetters" "BadLetters.__init__" e_BadLetters A.c_BadLetters ["index"])
    (W : ∃ f fd, Fun K "__init__" "Web.__init__" s_Web_init f fd ∧ Mk K A.c_Web f ∧ mg "Web" = some (.ref A.c_Web))
    (Fe : Fun K "_law_errors_right" "_law_errors_right" s__law_errors_right fe fde) (me : mg "_law_errors_right" = some (.ref fe)) (HX : HxC K mg (hs__law_heard A)) (HC : HsC K (clA A) (hs__law_heard A)) (ch : ClH K mg "_law_heard" s__law_heard "call") (tb : LamX.TabB base mg c Pt) (hc : fde.code = .ref c)
    (Fl : Fun K "law" "law" s_law fl fdl) : FnOkG P w K mg base 10 fl fdl ["script"] (spLaw K [(Pt, (("_law_errors_right" ++ ".<locals>." ++ "<lambda>") : Str))]) ∧ Binds K fdl ["script"] [] := by
  have c_BadNumber := k_BadNumber (P := P) (w := w) (base := base) e_BadNumber
  have c_BadItem := k_BadItem (P := P) (w := w) (base := base) e_BadItem
  have c_TooMany := k_TooMany (P := P) (w := w) (base := base) e_TooMany
  have c_BadColour := k_BadColour (P := P) (w := w) (base := base) e_BadColour
  have c_BadWeb := k_BadWeb (P := P) (w := w) (base := base) e_BadWeb
  have c_BadLetters := k_BadLetters (P := P) (w := w) (base := base) e_BadLetters
  have c_is_integer := k_is_integer (P := P) (w := w) (base := base) (Tb := [(Pt, (("_law_errors_right" ++ ".<locals>." ++ "<lambda>") : Str))]) D T O I 
  have c_is_row := k_is_row (P := P) (w := w) (base := base) (Tb := [(Pt, (("_law_errors_right" ++ ".<locals>." ++ "<lambda>") : Str))]) D T O I 
  have c_is_point := k_is_point (P := P) (w := w) (base := base) (Tb := [(Pt, (("_law_errors_right" ++ ".<locals>." ++ "<lambda>") : Str))]) D T O I c_is_integer
  have c_need_many := k_need_many (P := P) (w := w) (base := base) (Tb := [(Pt, (("_law_errors_right" ++ ".<locals>." ++ "<lambda>") : Str))]) D T O I c_is_integer c_BadNumber
  have c_need_letters := k_need_letters (P := P) (w := w) (base := base) (Tb := [(Pt, (("_law_errors_right" ++ ".<locals>." ++ "<lambda>") : Str))]) D T O I c_is_row c_BadLetters c_is_point
  have c_need_asked := k_need_asked (P := P) (w := w) (base := base) (Tb := [(Pt, (("_law_errors_right" ++ ".<locals>." ++ "<lambda>") : Str))]) D T O I c_need_many c_need_letters c_is_point c_BadColour
  have c_left_of := k_left_of (P := P) (w := w) (base := base) (Tb := [(Pt, (("_law_errors_right" ++ ".<locals>." ++ "<lambda>") : Str))]) D T O I 
  have c_changed := k_changed (P := P) (w := w) (base := base) (Tb := [(Pt, (("_law_errors_right" ++ ".<locals>." ++ "<lambda>") : Str))]) D T O I 
  have c_word_down := k_word_down (P := P) (w := w) (base := base) (Tb := [(Pt, (("_law_errors_right" ++ ".<locals>." ++ "<lambda>") : Str))]) D T O I c_left_of c_changed
  have c_word_up := k_word_up (P := P) (w := w) (base := base) (Tb := [(Pt, (("_law_errors_right" ++ ".<locals>." ++ "<lambda>") : Str))]) D T O I c_left_of c_changed
  have c_lower_word := k_lower_word (P := P) (w := w) (base := base) (Tb := [(Pt, (("_law_errors_right" ++ ".<locals>." ++ "<lambda>") : Str))]) D T O I c_word_down c_need_asked
  have c_raise_word := k_raise_word (P := P) (w := w) (base := base) (Tb := [(Pt, (("_law_errors_right" ++ ".<locals>." ++ "<lambda>") : Str))]) D T O I c_word_up c_need_asked
  have c_word_depths := k_word_depths (P := P) (w := w) (base := base) (Tb := [(Pt, (("_law_errors_right" ++ ".<locals>." ++ "<lambda>") : Str))]) D T O I c_left_of c_need_asked
  have c_weight_of_letters := k_weight_of_letters (P := P) (w := w) (base := base) (Tb := [(Pt, (("_law_errors_right" ++ ".<locals>." ++ "<lambda>") : Str))]) D T O I 
  have c_word_weight := k_word_weight (P := P) (w := w) (base := base) (Tb := [(Pt, (("_law_errors_right" ++ ".<locals>." ++ "<lambda>") : Str))]) D T O I c_need_many c_weight_of_letters c_need_letters
  have c_is_high := k_is_high (P := P) (w := w) (base := base) (Tb := [(Pt, (("_law_errors_right" ++ ".<locals>." ++ "<lambda>") : Str))]) D T O I c_word_up
  have c_is_high_word := k_is_high_word (P := P) (w := w) (base := base) (Tb := [(Pt, (("_law_errors_right" ++ ".<locals>." ++ "<lambda>") : Str))]) D T O I c_need_many c_is_high c_need_letters
  have c_are_rows := k_are_rows (P := P) (w := w) (base := base) (Tb := [(Pt, (("_law_errors_right" ++ ".<locals>." ++ "<lambda>") : Str))]) D T O I c_is_row
  have c_has_two := k_has_two (P := P) (w := w) (base := base) (Tb := [(Pt, (("_law_errors_right" ++ ".<locals>." ++ "<lambda>") : Str))]) D T O I 
  have c_has_ring := k_has_ring (P := P) (w := w) (base := base) (Tb := [(Pt, (("_law_errors_right" ++ ".<locals>." ++ "<lambda>") : Str))]) D T O I 
  have c_wrong_arrows := k_wrong_arrows (P := P) (w := w) (base := base) (Tb := [(Pt, (("_law_errors_right" ++ ".<locals>." ++ "<lambda>") : Str))]) D T O I c_are_rows c_is_point c_has_two c_has_ring
  have c_need_web := k_need_web (P := P) (w := w) (base := base) (Tb := [(Pt, (("_law_errors_right" ++ ".<locals>." ++ "<lambda>") : Str))]) D T O I c_BadItem
  have c_backward := k_backward (P := P) (w := w) (base := base) (Tb := [(Pt, (("_law_errors_right" ++ ".<locals>." ++ "<lambda>") : Str))]) D T O I 
  have c_backs_of := k_backs_of (P := P) (w := w) (base := base) (Tb := [(Pt, (("_law_errors_right" ++ ".<locals>." ++ "<lambda>") : Str))]) D T O I c_backward
  have c_how_far := k_how_far (P := P) (w := w) (base := base) (Tb := [(Pt, (("_law_errors_right" ++ ".<locals>." ++ "<lambda>") : Str))]) D T O I 
  have c_all_depths := k_all_depths (P := P) (w := w) (base := base) (Tb := [(Pt, (("_law_errors_right" ++ ".<locals>." ++ "<lambda>") : Str))]) D T O I c_backs_of c_how_far
  have c_need_alike_colours := k_need_alike_colours (P := P) (w := w) (base := base) (Tb := [(Pt, (("_law_errors_right" ++ ".<locals>." ++ "<lambda>") : Str))]) D T O I c_need_web c_BadItem
  have c_joined_row := k_joined_row (P := P) (w := w) (base := base) (Tb := [(Pt, (("_law_errors_right" ++ ".<locals>." ++ "<lambda>") : Str))]) D T O I 
  have c_Web := k_Web (P := P) (w := w) (base := base) W T O c_wrong_arrows c_BadWeb
  have c_joined := k_joined (P := P) (w := w) (base := base) (Tb := [(Pt, (("_law_errors_right" ++ ".<locals>." ++ "<lambda>") : Str))]) D T O I c_need_alike_colours c_TooMany c_all_depths c_joined_row c_Web
  have c__law_pen := k__law_pen (P := P) (w := w) (base := base) (Tb := [(Pt, (("_law_errors_right" ++ ".<locals>." ++ "<lambda>") : Str))]) D T O I 
  have c__law_draw := k__law_draw (P := P) (w := w) (base := base) (Tb := [(Pt, (("_law_errors_right" ++ ".<locals>." ++ "<lambda>") : Str))]) D T O I 
  have c__law_pick := k__law_pick (P := P) (w := w) (base := base) (Tb := [(Pt, (("_law_errors_right" ++ ".<locals>." ++ "<lambda>") : Str))]) D T O I c__law_draw
  have c__law_listed := k__law_listed (P := P) (w := w) (base := base) (Tb := [(Pt, (("_law_errors_right" ++ ".<locals>." ++ "<lambda>") : Str))]) D T O I c__law_draw
  have c__law_is_truth := k__law_is_truth (P := P) (w := w) (base := base) (Tb := [(Pt, (("_law_errors_right" ++ ".<locals>." ++ "<lambda>") : Str))]) D T O I 
  have c__law_is_int := k__law_is_int (P := P) (w := w) (base := base) (Tb := [(Pt, (("_law_errors_right" ++ ".<locals>." ++ "<lambda>") : Str))]) D T O I 
  have c__law_is_ints := k__law_is_ints (P := P) (w := w) (base := base) (Tb := [(Pt, (("_law_errors_right" ++ ".<locals>." ++ "<lambda>") : Str))]) D T O I c__law_is_int
  have c__law_odd_point := k__law_odd_point (P := P) (w := w) (base := base) (Tb := [(Pt, (("_law_errors_right" ++ ".<locals>." ++ "<lambda>") : Str))]) D T O I c__law_pick
  have c__law_left := k__law_left (P := P) (w := w) (base := base) (Tb := [(Pt, (("_law_errors_right" ++ ".<locals>." ++ "<lambda>") : Str))]) D T O I c__law_pick
  have c__law_with := k__law_with (P := P) (w := w) (base := base) (Tb := [(Pt, (("_law_errors_right" ++ ".<locals>." ++ "<lambda>") : Str))]) D T O I 
  have c__law_word_right := k__law_word_right (P := P) (w := w) (base := base) (Tb := [(Pt, (("_law_errors_right" ++ ".<locals>." ++ "<lambda>") : Str))]) D T O I c__law_listed c__law_left c_lower_word c_raise_word c__law_with c_word_depths c__law_is_ints c_word_weight c__law_is_truth c_is_high_word
  have c__law_joined_right := k__law_joined_right (P := P) (w := w) (base := base) (Tb := [(Pt, (("_law_errors_right" ++ ".<locals>." ++ "<lambda>") : Str))]) D T O I c_Web c__law_draw c_joined c_lower_word
  have c_err := k_errors (P := P) (w := w) (base := base) (Pt := Pt) Fe me T c__law_pick c__law_draw c__law_odd_point c_lower_word c_raise_word c_word_depths c_word_weight c_is_high_word HX HC ch ⟨c, tb, hc⟩ List.mem_cons_self (fun p hp _ => by rw [List.mem_singleton.mp hp])
  exact k_law Fl T c__law_pen c__law_draw c__law_word_right c__law_joined_right c_err
end P75
set_option Elab.async false
set_option linter.all false
set_option maxRecDepth 100000
set_option maxHeartbeats 4000000
namespace P75
open PySem L2 Evl DL RZ
section
variable {P : Program} {w : World} {K : PySem.W.Frag} {h : Heap} {mg : Str → Option Value}
theorem df_mk (X : K.In h) (G : h.Ns mainGlobals mg) {x : Str} {st : Stmt} {f : Addr} {oc : Value} {od an : Option Addr} {osl : Array (Option Value)} {kV doc pm cdv ct : Value} (a : PySem.W.nsIn K mainGlobals x = some (some (.ref f)))
    (l : K.lookup f = some ⟨oc, od, .func (PySem.W.fnOf x x (defArgs st) (defBody st) (defScope st) .none kV doc pm an cdv ct), osl⟩) (c : PySem.W.codeIn K cdv x = true) (k : PySem.W.keepIn K (.ref f) = true) : Df K mg x st :=
  ⟨f, _, fun_mk l c k, PySem.W.mg_of X G a⟩
theorem exm_val {C D : Addr} {b : Bool} (h1 : PySem.W.subIn K (.ref D) (.type "BaseException") = some true) (h2 : PySem.W.isClsIn K D = true) (h3 : PySem.W.typeIn K (.ref D) = some (.type "type")) (h4 : PySem.W.subIn K (.ref C) (.ref D) = some b) :
    PySem.W.exmOne K (.ref C) (.ref D) = some b := by
  have e1 : (PySem.W.subIn K (.ref D) (.type "BaseException") == some true) = true := by rw [h1] <;> rfl
  have e2 : ((PySem.W.clsIn K D).isSome && PySem.W.typeIn K (.ref D) == some (.type "type")) = true := by
    have h2' : (PySem.W.clsIn K D).isSome = true := h2
    rw [h2', h3] <;> rfl
  show (if (PySem.W.subIn K (.ref D) (.type "BaseException") == some true) = true then (if ((PySem.W.clsIn K D).isSome && PySem.W.typeIn K (.ref D) == some (.type "type")) = true then PySem.W.subIn K (.ref C) (.ref D) else none) else none) = some b
  rw [if_pos e1, if_pos e2]
  exact h4
theorem errc_mk (X : K.In h) (G : h.Ns mainGlobals mg) {x qual : Str} {st : Stmt} {C f cda cc : Addr} {fns : List Str}
    {nm q : Str} {N : Addr} {bs bm : List Value} {sn : List Str} {sub : List Value} {ab : Bool} {col : Option Bool} {dd : Option Addr} {m0 m1 m2 m3 m5 : Option Value}
    {oc kV doc pm ct : Value} {an od : Option Addr} {osl csl ccs : Array (Option Value)} {cl ccl : Value} {cld cdd : Option Addr} {vs : Array Value} {file : Str} {tf : Tok}
    (g : PySem.W.nsIn K mainGlobals x = some (some (.ref C)))
    (lC : K.lookup C = some (excClassObj nm q C N bs bm true sn sub ab col dd m0 m1 m2 m3 m5 "ValueError.__new__"))
    (sa : PySem.W.findIn K (.ref C) "__setattr__" = some (some (.builtin "object.__setattr__"))) (eC : PySem.W.subIn K (.ref C) (.type "BaseException") = some true) (tC : PySem.W.typeIn K (.ref C) = some (.type "type")) (kC : PySem.W.keepIn K (.ref C) = true)
    (i : PySem.W.findIn K (.ref C) "__init__" = some (some (.ref f))) (t : PySem.W.typeIn K (.ref f) = some (.type "function"))
    (lf : K.lookup f = some ⟨oc, od, .func (PySem.W.ksFn "__init__" qual (defArgs st) (defBody st) (defScope st) .none kV doc pm an (.ref cda) ct cc), osl⟩) (cf : PySem.W.codeIn K (.ref cda) qual = true)
    (lc : K.lookup cc = some ⟨cl, cld, .cell (some (.ref C)), csl⟩) (ld : K.lookup cda = some ⟨ccl, cdd, .fields vs, ccs⟩) (hv : vs[2]? = some (.str file tf)) (hf : ((P.main.file : Str) == file) = true)
    (su : PySem.W.nsIn K mainGlobals "super" = some none) (mr : PySem.W.mroIn K C (.ref C) = some true) (op : PySem.W.nsIn K cStatics "thirdparty.any" = some none) (ini : PySem.W.ks_superIn K C C "__init__" = some (some (.builtin "ValueError.__init__")))
    (iE : PySem.W.subIn K (.ref C) (.type "ValueError") = some true) (no : ∀ f ∈ fns, PySem.W.findIn K (.ref C) f = some none) (rb : PySem.HandSPX.refsVE bm = true) (tp : (P.main.scope.names.lookup ("super" : Str)).isSome = false) : ErrC P K mg x qual st C fns :=
  ⟨⟨f, cda, cc, oc, .none, kV, doc, pm, ct, an, od, osl, ⟨⟨⟨nm, q, N, bs, bm, sn, sub, ab, col, dd, m0, m1, m2, m3, m5, lC, rb⟩, sa, eC, tC, kC⟩, ⟨_, _, _, lc⟩, ⟨_, _, _, _, _, _, ld, hv, hf⟩, PySem.W.mg_none_of X G su, mr, op, ini, iE, tp, no⟩, lf, cf, i, t, rfl⟩, PySem.W.mg_of X G g⟩
theorem all_nil {p : Str → Prop} : ∀ f ∈ ([] : List Str), p f := fun _ h => nomatch h
theorem all_cons {p : Str → Prop} {x : Str} {l : List Str} (h1 : p x) (h2 : ∀ f ∈ l, p f) : ∀ f ∈ x :: l, p f := fun f hf => by
  rcases List.mem_cons.mp hf with rfl | hf
  · exact h1
  · exact h2 f hf
theorem glob_int (X : K.In h) (G : h.Ns mainGlobals mg) {x : Str} {i : Int} {t : Tok} (a : PySem.W.nsIn K mainGlobals x = some (some (.int i t))) : ∃ u, mg x = some u ∧ RelV (.int i) u := ⟨_, PySem.W.mg_of X G a, ⟨_, rfl⟩⟩
theorem glob_ref (X : K.In h) (G : h.Ns mainGlobals mg) {x : Str} {C : Addr} (a : PySem.W.nsIn K mainGlobals x = some (some (.ref C))) : ∃ u, mg x = some u ∧ RelV (.ref C) u := ⟨_, PySem.W.mg_of X G a, rfl⟩
theorem km_none {K : Params → PySem.W.Frag} {as : List Addr} {e : ∀ P, as = (K P).map (·.1)} {ts : List Addr} {w : World} {h : Heap} (Y : (PySem.W.kmHook K as e ts).says w h) {P : Addr} (hP : as.contains P = false) : (K w.params).lookup P = none := by
  rw [List.lookup_eq_none_iff]
  intro p hp
  have : p.1 ∈ as := by rw [e w.params]; exact List.mem_map_of_mem hp
  rw [bne_iff_ne]
  intro z
  rw [← z] at this
  rw [List.contains_eq_mem, decide_eq_false_iff_not] at hP
  exact hP this
structure WebB (K : PySem.W.Frag) (mg : Str → Option Value) (C : Addr) : Prop where
  W : ∃ f fd, Fun K "__init__" "Web.__init__" s_Web_init f fd ∧ Mk K C f ∧ mg "Web" = some (.ref C)
  G : ∃ u, mg "Web" = some u ∧ RelV (.ref C) u
  c : Cls K C
  N : ∀ f ∈ fWeb, NoAttr K C f
  I : IsiC K C
theorem web_mk (X : K.In h) (G : h.Ns mainGlobals mg) {C : Addr} {f : Addr} {oc : Value} {od an : Option Addr} {osl : Array (Option Value)} {kV doc pm cdv ct : Value} (g : PySem.W.nsIn K mainGlobals "Web" = some (some (.ref C)))
    (i : PySem.W.findIn K (.ref C) "__init__" = some (some (.ref f))) (l : K.lookup f = some ⟨oc, od, .func (PySem.W.fnOf "__init__" "Web.__init__" (defArgs s_Web_init) (defBody s_Web_init) (defScope s_Web_init) .none kV doc pm an cdv ct), osl⟩) (c : PySem.W.codeIn K cdv "Web.__init__" = true) (k : PySem.W.keepIn K (.ref f) = true)
    (m : PySem.W.makesIn K C = true) (fn : PySem.W.isFn K (.ref f) = true) (kc : PySem.W.keepIn K (.ref C) = true)
    (h1 : PySem.W.plainGet K C Str.empty = true) (h2 : PySem.W.hasDictIn K C = true) (h3 : PySem.W.plainOver K C = true) (h4 : PySem.W.findIn K (.ref C) "__setattr__" = some (some (.builtin "object.__setattr__")))
    (n1 : PySem.W.findIn K (.ref C) "arrows" = some none) (n2 : PySem.W.findIn K (.ref C) "colours" = some none) (n3 : PySem.W.findIn K (.ref C) "many" = some none)
    (i1 : PySem.W.findIn K (.ref C) "__class__" = some (some (.builtin "object.__class__"))) (i2 : PySem.W.specialIn K (.builtin "object.__class__") "__get__" = some (some (.builtin "getset_descriptor.__get__"))) (i3 : PySem.W.takesIn K (.builtin "object.__class__") = some true) (i4 : PySem.W.mroIn K C (.type "object") = some true) : WebB K mg C :=
  ⟨⟨f, _, fun_mk l c k, ⟨m, i, fn, kc⟩, PySem.W.mg_of X G g⟩, glob_ref X G g, ⟨h1, h2, h3, h4⟩, all_cons n1 (all_cons n2 (all_cons n3 all_nil)), ⟨i1, i2, i3, i4⟩⟩
theorem clA_Web (A : Ads) : clA A "Web" = some A.c_Web := by
  unfold clA
  rw [if_neg (by decide +kernel), if_neg (by decide +kernel), if_neg (by decide +kernel), if_neg (by decide +kernel), if_neg (by decide +kernel), if_neg (by decide +kernel), if_pos rfl]
/-- what the clauses want of a class -/
structure ErrX (K : PySem.W.Frag) (C : Addr) : Prop where
  x : XfC K C
  i : PySem.W.isClsIn K C = true
  t : PySem.W.typeIn K (.ref C) = some (.type "type")
structure SubB (K : PySem.W.Frag) (C D : Addr) (b : Bool) : Prop where
  s : PySem.W.subIn K (.ref C) (.ref D) = some b
theorem errx_mk {P : Program} {x qual : Str} {st : Stmt} {C : Addr} {fns : List Str} (e : ErrC P K mg x qual st C fns) (ga : PySem.W.findIn K (.ref C) "__getattribute__" = some (some (.builtin "BaseException.__getattribute__"))) (gg : PySem.W.findIn K (.ref C) "__getattr__" = some none)
    (exC : PySem.W.subIn K (.ref C) (.type "BaseException") = some true) (hd : PySem.W.hasDictIn K C = true) (i : PySem.W.isClsIn K C = true) (t : PySem.W.typeIn K (.ref C) = some (.type "type")) : ErrX K C := ⟨⟨ga, gg, exC, hd⟩, i, t⟩
theorem sub_mk {C D : Addr} {b : Bool} (e1 : ErrX K C) (e2 : ErrX K D) (h : PySem.W.subIn K (.ref C) (.ref D) = some b) : SubB K C D b := ⟨h⟩
theorem ErrC.no {P : Program} {x qual : Str} {st : Stmt} {C : Addr} {fns : List Str} (e : ErrC P K mg x qual st C fns) : ∀ f ∈ fns, PySem.W.findIn K (.ref C) f = some none := by
  obtain ⟨⟨_, _, _, _, _, _, _, _, _, _, _, _, S, _⟩, _⟩ := e
  exact S.no
theorem hxs_mk {P : Program} {A : Ads} (E1 : ErrC P K mg "BadNumber" "BadNumber.__init__" e_BadNumber A.c_BadNumber ["what", "value"]) (E2 : ErrC P K mg "BadLetters" "BadLetters.__init__" e_BadLetters A.c_BadLetters ["index"]) (E3 : ErrC P K mg "BadColour" "BadColour.__init__" e_BadColour A.c_BadColour ["value"])
    (y1 : ErrX K A.c_BadNumber) (y2 : ErrX K A.c_BadLetters) (y3 : ErrX K A.c_BadColour)
    (b11 : SubB K A.c_BadNumber A.c_BadNumber true) (b12 : SubB K A.c_BadNumber A.c_BadLetters false) (b13 : SubB K A.c_BadNumber A.c_BadColour false)
    (b21 : SubB K A.c_BadLetters A.c_BadNumber false) (b22 : SubB K A.c_BadLetters A.c_BadLetters true) (b23 : SubB K A.c_BadLetters A.c_BadColour false)
    (b31 : SubB K A.c_BadColour A.c_BadNumber false) (b32 : SubB K A.c_BadColour A.c_BadLetters false) (b33 : SubB K A.c_BadColour A.c_BadColour true) : HxC K mg (hs__law_heard A) ∧ HsC K (clA A) (hs__law_heard A) := by
  obtain ⟨x1, i1, t1⟩ := y1
  obtain ⟨x2, i2, t2⟩ := y2
  obtain ⟨x3, i3, t3⟩ := y3
  obtain ⟨s11⟩ := b11
  obtain ⟨s12⟩ := b12
  obtain ⟨s13⟩ := b13
  obtain ⟨s21⟩ := b21
  obtain ⟨s22⟩ := b22
  obtain ⟨s23⟩ := b23
  obtain ⟨s31⟩ := b31
  obtain ⟨s32⟩ := b32
  obtain ⟨s33⟩ := b33
  have m1 := E1.mg
  have m2 := E2.mg
  have m3 := E3.mg
  have p1 := E1.no "what" (by simp)
  have p2 := E1.no "value" (by simp)
  have p3 := E2.no "index" (by simp)
  have p4 := E3.no "value" (by simp)
  have mem : ∀ {x : HS}, x ∈ hs__law_heard A → x = ⟨"BadNumber", A.c_BadNumber, "number", [.f "what", .r "value"]⟩ ∨ x = ⟨"BadLetters", A.c_BadLetters, "letters", [.f "index"]⟩ ∨ x = ⟨"BadColour", A.c_BadColour, "colour", [.r "value"]⟩ := fun hx => by simpa using hx
  have xf : ∀ h ∈ hs__law_heard A, XfC K h.addr := fun x hx => by
    rcases mem hx with rfl | rfl | rfl
    · exact x1
    · exact x2
    · exact x3
  have no : ∀ h ∈ hs__law_heard A, ∀ p ∈ h.parts, PySem.W.findIn K (.ref h.addr) p.nm = some none := fun x hx p hp => by
    rcases mem hx with rfl | rfl | rfl
    · rcases List.mem_cons.mp hp with rfl | hp
      · exact p1
      · rw [List.mem_singleton.mp hp]
        exact p2
    · rw [List.mem_singleton.mp hp]
      exact p3
    · rw [List.mem_singleton.mp hp]
      exact p4
  refine ⟨⟨fun x hx => ?_, xf, no⟩, ⟨fun x hx => ?_, fun x hx y hy => ?_, xf, no, fun x hx => ?_⟩⟩
  · rcases mem hx with rfl | rfl | rfl
    · exact m1
    · exact m2
    · exact m3
  · rcases mem hx with rfl | rfl | rfl
    · exact cl_num A
    · exact cl_let A
    · exact cl_col A
  · have e1 := x1.exC
    have e2 := x2.exC
    have e3 := x3.exC
    rcases mem hx with rfl | rfl | rfl <;> rcases mem hy with rfl | rfl | rfl
    · rw [decide_eq_true rfl]; exact exm_val e1 i1 t1 s11
    · rw [decide_eq_false (show ¬ ("BadNumber" : Str) = "BadLetters" by decide +kernel)]; exact exm_val e2 i2 t2 s12
    · rw [decide_eq_false (show ¬ ("BadNumber" : Str) = "BadColour" by decide +kernel)]; exact exm_val e3 i3 t3 s13
    · rw [decide_eq_false (show ¬ ("BadLetters" : Str) = "BadNumber" by decide +kernel)]; exact exm_val e1 i1 t1 s21
    · rw [decide_eq_true rfl]; exact exm_val e2 i2 t2 s22
    · rw [decide_eq_false (show ¬ ("BadLetters" : Str) = "BadColour" by decide +kernel)]; exact exm_val e3 i3 t3 s23
    · rw [decide_eq_false (show ¬ ("BadColour" : Str) = "BadNumber" by decide +kernel)]; exact exm_val e1 i1 t1 s31
    · rw [decide_eq_false (show ¬ ("BadColour" : Str) = "BadLetters" by decide +kernel)]; exact exm_val e2 i2 t2 s32
    · rw [decide_eq_true rfl]; exact exm_val e3 i3 t3 s33
  · rcases mem hx with rfl | rfl | rfl <;> (simp)
theorem df_clh (D : Df K mg "_law_heard" s__law_heard) : ClH K mg "_law_heard" s__law_heard "call" := by
  obtain ⟨f, fd, F, hm⟩ := D
  exact ⟨f, fd, F, hm, F.kp, F.binds (fun _ _ _ _ _ _ us hl => match us, hl with | [_], _ => rfl)⟩
theorem lawat {l : PySem.W.OpenLaw} {q : Program} (X : K.In h) (G : h.Ns mainGlobals mg) {fa : Addr} (hmg : mg "law" = some (.ref fa)) (tabs : TabsAt q K mg h) {A : Ads} (D : Dfs K mg) (T : Tx K mg A) (WB : WebB K mg A.c_Web)
    (e_BadNumber : ErrC l.prog K mg "BadNumber" "BadNumber.__init__" e_BadNumber A.c_BadNumber ["what", "value"]) (e_BadItem : ErrC l.prog K mg "BadItem" "BadItem.__init__" e_BadItem A.c_BadItem ["value"]) (e_TooMany : ErrC l.prog K mg "TooMany" "TooMany.__init__" e_TooMany A.c_TooMany ["what", "most"]) (e_BadColour : ErrC l.prog K mg "BadColour" "BadColour.__init__" e_BadColour A.c_BadColour ["value"]) (e_BadWeb : ErrC l.prog K mg "BadWeb" "BadWeb.__init__" e_BadWeb A.c_BadWeb ["why"]) (e_BadLetters : ErrC l.prog K mg "BadLetters" "BadLetters.__init__" e_BadLetters A.c_BadLetters ["index"])
    (HH : HxC K mg (hs__law_heard A) ∧ HsC K (clA A) (hs__law_heard A)) (ch : Df K mg "_law_heard" s__law_heard)
    {fe cda Pt fl : Addr} {oc1 oc2 kV1 kV2 doc1 doc2 pm1 pm2 cd2 ct1 ct2 eC : Value} {od1 od2 an1 an2 dd : Option Addr} {osl1 osl2 csl : Array (Option Value)} {vs : Array Value}
    (a1 : PySem.W.nsIn K mainGlobals "_law_errors_right" = some (some (.ref fe))) (l1 : K.lookup fe = some ⟨oc1, od1, .func (PySem.W.fnOf "_law_errors_right" "_law_errors_right" (defArgs s__law_errors_right) (defBody s__law_errors_right) (defScope s__law_errors_right) .none kV1 doc1 pm1 an1 (.ref cda) ct1), osl1⟩)
    (c1 : PySem.W.codeIn K (.ref cda) "_law_errors_right" = true) (k1 : PySem.W.keepIn K (.ref fe) = true) (ld : K.lookup cda = some ⟨eC, dd, .fields vs, csl⟩) (h11 : vs[11]? = some (.ref Pt)) (hcd : PySem.W.codeHdIn K cda Pt = true) (nP : K.lookup Pt = none) (hrec : ((PyProof.Rows.recsOf q).any fun e => e.name == ("_law_errors_right" : Str)) = true)
    (a2 : PySem.W.nsIn K mainGlobals "law" = some (some (.ref fl))) (l2 : K.lookup fl = some ⟨oc2, od2, .func (PySem.W.fnOf "law" "law" (defArgs s_law) (defBody s_law) (defScope s_law) .none kV2 doc2 pm2 an2 cd2 ct2), osl2⟩) (c2 : PySem.W.codeIn K cd2 "law" = true) (k2 : PySem.W.keepIn K (.ref fl) = true) :
    LawAtG l w K 10 63 "script" mg fa h := by
  have me := PySem.W.mg_of X G a1
  have e := hmg.symm.trans (PySem.W.mg_of X G a2)
  cases e
  have Fe := fun_mk (st := s__law_errors_right) l1 c1 k1
  have Fl := fun_mk (st := s_law) l2 c2 k2
  refine ⟨PySem.W.fnOf "law" "law" (defArgs s_law) (defBody s_law) (defScope s_law) .none kV2 doc2 pm2 an2 cd2 ct2, cda, Pt, spLaw K [(Pt, (("_law_errors_right" ++ ".<locals>." ++ "<lambda>") : Str))], tabs _ _ hrec me cda Pt _ _ _ _ _ _ l1 rfl rfl ld h11, nP, PySem.W.codeHd_of_K X hcd, fun s u => .of_eq rfl, fun H a ns hl hP hS => ⟨a, ns, rfl, hS, fun p hp => ?_, fun _ => rfl⟩, fun base hb hns tb => ?_⟩
  · rw [List.mem_singleton.mp hp]
    exact LamX.TabS.nil hP
  · exact (chain D T ⟨clA_Web A, WB.c, WB.N⟩ WB.I e_BadNumber e_BadItem e_TooMany e_BadColour e_BadWeb e_BadLetters WB.W Fe me HH.1 HH.2 (df_clh ch) tb rfl Fl).1
end
end P75
open PySem PySem.W PyProof.Rows
set_option Elab.async false
set_option maxRecDepth 100000 in
set_option maxHeartbeats 0 in
theorem PySem.Challenge.cw_chamberpaths_k75_whole_words_lowered_holds : PySem.Challenge.rw_chamberpaths_k75_whole_words_lowered.Holds := by
  w_on; o_law; k_head; (case hw => w_witness2)
  k_fill
  refine DL.walk_ofG (l := PySem.Challenge.rw_chamberpaths_k75_whole_words_lowered) (n := 63) (k := 10) (x := "script") rfl (by decide) rfl ⟨rfl, by decide, by decide⟩ (fun w h Y => PySem.W.km_in_of Y) ?F
  case F =>
    intro w mg fa h Y KX G hmg tabs
    have d_is_integer := P75.df_mk (x := "is_integer") (st := P75.s_is_integer) KX G (by k_is) (by k_is) (by k_is) (by k_is)
    have d_is_row := P75.df_mk (x := "is_row") (st := P75.s_is_row) KX G (by k_is) (by k_is) (by k_is) (by k_is)
    have d_is_point := P75.df_mk (x := "is_point") (st := P75.s_is_point) KX G (by k_is) (by k_is) (by k_is) (by k_is)
    have d_need_many := P75.df_mk (x := "need_many") (st := P75.s_need_many) KX G (by k_is) (by k_is) (by k_is) (by k_is)
    have d_need_letters := P75.df_mk (x := "need_letters") (st := P75.s_need_letters) KX G (by k_is) (by k_is) (by k_is) (by k_is)
    have d_need_asked := P75.df_mk (x := "need_asked") (st := P75.s_need_asked) KX G (by k_is) (by k_is) (by k_is) (by k_is)
    have d_left_of := P75.df_mk (x := "left_of") (st := P75.s_left_of) KX G (by k_is) (by k_is) (by k_is) (by k_is)
    have d_changed := P75.df_mk (x := "changed") (st := P75.s_changed) KX G (by k_is) (by k_is) (by k_is) (by k_is)
    have d_word_down := P75.df_mk (x := "word_down") (st := P75.s_word_down) KX G (by k_is) (by k_is) (by k_is) (by k_is)
    have d_word_up := P75.df_mk (x := "word_up") (st := P75.s_word_up) KX G (by k_is) (by k_is) (by k_is) (by k_is)
    have d_lower_word := P75.df_mk (x := "lower_word") (st := P75.s_lower_word) KX G (by k_is) (by k_is) (by k_is) (by k_is)
    have d_raise_word := P75.df_mk (x := "raise_word") (st := P75.s_raise_word) KX G (by k_is) (by k_is) (by k_is) (by k_is)
    have d_word_depths := P75.df_mk (x := "word_depths") (st := P75.s_word_depths) KX G (by k_is) (by k_is) (by k_is) (by k_is)
    have d_weight_of_letters := P75.df_mk (x := "weight_of_letters") (st := P75.s_weight_of_letters) KX G (by k_is) (by k_is) (by k_is) (by k_is)
    have d_word_weight := P75.df_mk (x := "word_weight") (st := P75.s_word_weight) KX G (by k_is) (by k_is) (by k_is) (by k_is)
    have d_is_high := P75.df_mk (x := "is_high") (st := P75.s_is_high) KX G (by k_is) (by k_is) (by k_is) (by k_is)
    have d_is_high_word := P75.df_mk (x := "is_high_word") (st := P75.s_is_high_word) KX G (by k_is) (by k_is) (by k_is) (by k_is)
    have d_are_rows := P75.df_mk (x := "are_rows") (st := P75.s_are_rows) KX G (by k_is) (by k_is) (by k_is) (by k_is)
    have d_has_two := P75.df_mk (x := "has_two") (st := P75.s_has_two) KX G (by k_is) (by k_is) (by k_is) (by k_is)
    have d_has_ring := P75.df_mk (x := "has_ring") (st := P75.s_has_ring) KX G (by k_is) (by k_is) (by k_is) (by k_is)
    have d_wrong_arrows := P75.df_mk (x := "wrong_arrows") (st := P75.s_wrong_arrows) KX G (by k_is) (by k_is) (by k_is) (by k_is)
    have d_need_web := P75.df_mk (x := "need_web") (st := P75.s_need_web) KX G (by k_is) (by k_is) (by k_is) (by k_is)
    have d_backward := P75.df_mk (x := "backward") (st := P75.s_backward) KX G (by k_is) (by k_is) (by k_is) (by k_is)
    have d_backs_of := P75.df_mk (x := "backs_of") (st := P75.s_backs_of) KX G (by k_is) (by k_is) (by k_is) (by k_is)
    have d_how_far := P75.df_mk (x := "how_far") (st := P75.s_how_far) KX G (by k_is) (by k_is) (by k_is) (by k_is)
    have d_all_depths := P75.df_mk (x := "all_depths") (st := P75.s_all_depths) KX G (by k_is) (by k_is) (by k_is) (by k_is)
    have d_need_alike_colours := P75.df_mk (x := "need_alike_colours") (st := P75.s_need_alike_colours) KX G (by k_is) (by k_is) (by k_is) (by k_is)
    have d_joined_row := P75.df_mk (x := "joined_row") (st := P75.s_joined_row) KX G (by k_is) (by k_is) (by k_is) (by k_is)
    have d_joined := P75.df_mk (x := "joined") (st := P75.s_joined) KX G (by k_is) (by k_is) (by k_is) (by k_is)
    have d__law_pen := P75.df_mk (x := "_law_pen") (st := P75.s__law_pen) KX G (by k_is) (by k_is) (by k_is) (by k_is)
    have d__law_draw := P75.df_mk (x := "_law_draw") (st := P75.s__law_draw) KX G (by k_is) (by k_is) (by k_is) (by k_is)
    have d__law_pick := P75.df_mk (x := "_law_pick") (st := P75.s__law_pick) KX G (by k_is) (by k_is) (by k_is) (by k_is)
    have d__law_listed := P75.df_mk (x := "_law_listed") (st := P75.s__law_listed) KX G (by k_is) (by k_is) (by k_is) (by k_is)
    have d__law_is_truth := P75.df_mk (x := "_law_is_truth") (st := P75.s__law_is_truth) KX G (by k_is) (by k_is) (by k_is) (by k_is)
    have d__law_is_int := P75.df_mk (x := "_law_is_int") (st := P75.s__law_is_int) KX G (by k_is) (by k_is) (by k_is) (by k_is)
    have d__law_is_ints := P75.df_mk (x := "_law_is_ints") (st := P75.s__law_is_ints) KX G (by k_is) (by k_is) (by k_is) (by k_is)
    have d__law_odd_point := P75.df_mk (x := "_law_odd_point") (st := P75.s__law_odd_point) KX G (by k_is) (by k_is) (by k_is) (by k_is)
    have d__law_left := P75.df_mk (x := "_law_left") (st := P75.s__law_left) KX G (by k_is) (by k_is) (by k_is) (by k_is)
    have d__law_with := P75.df_mk (x := "_law_with") (st := P75.s__law_with) KX G (by k_is) (by k_is) (by k_is) (by k_is)
    have d__law_word_right := P75.df_mk (x := "_law_word_right") (st := P75.s__law_word_right) KX G (by k_is) (by k_is) (by k_is) (by k_is)
    have d__law_joined_right := P75.df_mk (x := "_law_joined_right") (st := P75.s__law_joined_right) KX G (by k_is) (by k_is) (by k_is) (by k_is)
    have d_h := P75.df_mk (x := "_law_heard") (st := P75.s__law_heard) KX G (by k_is) (by k_is) (by k_is) (by k_is)
    have e_BadNumber := P75.errc_mk (P := PySem.Challenge.rw_chamberpaths_k75_whole_words_lowered.prog) (x := "BadNumber") (qual := "BadNumber.__init__") (st := P75.e_BadNumber) (fns := ["what", "value"]) KX G (by k_is) (by k_is) (by k_is) (by k_is) (by k_is) (by k_is) (by k_is) (by k_is) (by k_is) (by k_is) (by k_is) (by k_is) (by rfl) (by rfl) (by k_is) (by k_is) (by k_is) (by kernel_rfl) (by k_is) (P75.all_cons (by k_is) (P75.all_cons (by k_is) P75.all_nil)) (by decide +kernel) (by decide +kernel)
    have e_BadItem := P75.errc_mk (P := PySem.Challenge.rw_chamberpaths_k75_whole_words_lowered.prog) (x := "BadItem") (qual := "BadItem.__init__") (st := P75.e_BadItem) (fns := ["value"]) KX G (by k_is) (by k_is) (by k_is) (by k_is) (by k_is) (by k_is) (by k_is) (by k_is) (by k_is) (by k_is) (by k_is) (by k_is) (by rfl) (by rfl) (by k_is) (by k_is) (by k_is) (by kernel_rfl) (by k_is) (P75.all_cons (by k_is) P75.all_nil) (by decide +kernel) (by decide +kernel)
    have e_TooMany := P75.errc_mk (P := PySem.Challenge.rw_chamberpaths_k75_whole_words_lowered.prog) (x := "TooMany") (qual := "TooMany.__init__") (st := P75.e_TooMany) (fns := ["what", "most"]) KX G (by k_is) (by k_is) (by k_is) (by k_is) (by k_is) (by k_is) (by k_is) (by k_is) (by k_is) (by k_is) (by k_is) (by k_is) (by rfl) (by rfl) (by k_is) (by k_is) (by k_is) (by kernel_rfl) (by k_is) (P75.all_cons (by k_is) (P75.all_cons (by k_is) P75.all_nil)) (by decide +kernel) (by decide +kernel)
    have e_BadColour := P75.errc_mk (P := PySem.Challenge.rw_chamberpaths_k75_whole_words_lowered.prog) (x := "BadColour") (qual := "BadColour.__init__") (st := P75.e_BadColour) (fns := ["value"]) KX G (by k_is) (by k_is) (by k_is) (by k_is) (by k_is) (by k_is) (by k_is) (by k_is) (by k_is) (by k_is) (by k_is) (by k_is) (by rfl) (by rfl) (by k_is) (by k_is) (by k_is) (by kernel_rfl) (by k_is) (P75.all_cons (by k_is) P75.all_nil) (by decide +kernel) (by decide +kernel)
    have e_BadWeb := P75.errc_mk (P := PySem.Challenge.rw_chamberpaths_k75_whole_words_lowered.prog) (x := "BadWeb") (qual := "BadWeb.__init__") (st := P75.e_BadWeb) (fns := ["why"]) KX G (by k_is) (by k_is) (by k_is) (by k_is) (by k_is) (by k_is) (by k_is) (by k_is) (by k_is) (by k_is) (by k_is) (by k_is) (by rfl) (by rfl) (by k_is) (by k_is) (by k_is) (by kernel_rfl) (by k_is) (P75.all_cons (by k_is) P75.all_nil) (by decide +kernel) (by decide +kernel)
    have e_BadLetters := P75.errc_mk (P := PySem.Challenge.rw_chamberpaths_k75_whole_words_lowered.prog) (x := "BadLetters") (qual := "BadLetters.__init__") (st := P75.e_BadLetters) (fns := ["index"]) KX G (by k_is) (by k_is) (by k_is) (by k_is) (by k_is) (by k_is) (by k_is) (by k_is) (by k_is) (by k_is) (by k_is) (by k_is) (by rfl) (by rfl) (by k_is) (by k_is) (by k_is) (by kernel_rfl) (by k_is) (P75.all_cons (by k_is) P75.all_nil) (by decide +kernel) (by decide +kernel)
    have WB := P75.web_mk KX G (by k_is) (by k_is) (by k_is) (by k_is) (by k_is) (by k_is) (by k_is) (by k_is) (by k_is) (by k_is) (by k_is) (by k_is) (by k_is) (by k_is) (by k_is) (by k_is) (by k_is) (by k_is) (by k_is)
    have y_BadNumber := P75.errx_mk e_BadNumber (by k_is) (by k_is) (by k_is) (by k_is) (by k_is) (by k_is)
    have y_BadLetters := P75.errx_mk e_BadLetters (by k_is) (by k_is) (by k_is) (by k_is) (by k_is) (by k_is)
    have y_BadColour := P75.errx_mk e_BadColour (by k_is) (by k_is) (by k_is) (by k_is) (by k_is) (by k_is)
    have s_11 := P75.sub_mk (b := true) y_BadNumber y_BadNumber (by k_is)
    have s_12 := P75.sub_mk (b := false) y_BadNumber y_BadLetters (by k_is)
    have s_13 := P75.sub_mk (b := false) y_BadNumber y_BadColour (by k_is)
    have s_21 := P75.sub_mk (b := false) y_BadLetters y_BadNumber (by k_is)
    have s_22 := P75.sub_mk (b := true) y_BadLetters y_BadLetters (by k_is)
    have s_23 := P75.sub_mk (b := false) y_BadLetters y_BadColour (by k_is)
    have s_31 := P75.sub_mk (b := false) y_BadColour y_BadNumber (by k_is)
    have s_32 := P75.sub_mk (b := false) y_BadColour y_BadLetters (by k_is)
    have s_33 := P75.sub_mk (b := true) y_BadColour y_BadColour (by k_is)
    exact P75.lawat (A := ⟨_, _, _, _, _, _, _⟩) KX G hmg tabs ⟨d_is_integer, d_is_row, d_is_point, d_need_many, d_need_letters, d_need_asked, d_left_of, d_changed, d_word_down, d_word_up, d_lower_word, d_raise_word, d_word_depths, d_weight_of_letters, d_word_weight, d_is_high, d_is_high_word, d_are_rows, d_has_two, d_has_ring, d_wrong_arrows, d_need_web, d_backward, d_backs_of, d_how_far, d_all_depths, d_need_alike_colours, d_joined_row, d_joined, d__law_pen, d__law_draw, d__law_pick, d__law_listed, d__law_is_truth, d__law_is_int, d__law_is_ints, d__law_odd_point, d__law_left, d__law_with, d__law_word_right, d__law_joined_right⟩ ⟨PySem.W.mg_none_of (n := "len") KX G (by k_is), PySem.W.mg_none_of (n := "list") KX G (by k_is), PySem.W.mg_none_of (n := "tuple") KX G (by k_is), PySem.W.mg_none_of (n := "all") KX G (by k_is), PySem.W.mg_none_of (n := "any") KX G (by k_is), PySem.W.mg_none_of (n := "sorted") KX G (by k_is), PySem.W.mg_none_of (n := "isinstance") KX G (by k_is), PySem.W.mg_none_of (n := "int") KX G (by k_is), PySem.W.mg_none_of (n := "bool") KX G (by k_is), PySem.W.mg_none_of (n := "range") KX G (by k_is), PySem.W.mg_none_of (n := "enumerate") KX G (by k_is), PySem.W.mg_none_of (n := "zip") KX G (by k_is), PySem.W.mg_none_of (n := "repr") KX G (by k_is), P75.glob_int (x := "MOST_POINTS") KX G (by k_is), P75.glob_int (x := "MOST_COLOURS") KX G (by k_is), P75.glob_int (x := "MOST_SIZE") KX G (by k_is), P75.glob_int (x := "MOST_LETTERS") KX G (by k_is), WB.G⟩ WB e_BadNumber e_BadItem e_TooMany e_BadColour e_BadWeb e_BadLetters (P75.hxs_mk e_BadNumber e_BadLetters e_BadColour y_BadNumber y_BadLetters y_BadColour s_11 s_12 s_13 s_21 s_22 s_23 s_31 s_32 s_33) d_h (by k_is) (by k_is) (by k_is) (by k_is) (by k_is) (by rfl) (by kernel_rfl) (P75.km_none Y (by decide +kernel)) (by decide +kernel) (by k_is) (by k_is) (by k_is) (by k_is)
