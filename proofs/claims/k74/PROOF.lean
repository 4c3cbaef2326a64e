import PyProof.Rows.All
import HandS.ForMost
import HandS.Flow
import HandS.Lambda
import HandS.TupAny
import HandS.TupLe
import HandS.TupMul
import HandS.Zip
import HandS.Walk
import HandS.IsInst
import HandS.Deep
import HandS.Style
import KE.GoesEnum
import HandS.AnyAll
import HandS.GenList
import HandS.EndTab
import KE.KNest
import KE.SortData
import HandS.Conv
import HandS.ExcValue
import PyProof.Rows.InDataRows
import KE.SortKeyed
import KE.DataMinKey
import HandS.SortKw
import HandS.Keys
import KE.DataMinMax
import HandS.SetFor
import HandS.Strs
import HandS.Iter
import HandS.TupSets
import HandS.More
import PySem.Challenge.RW_slopeward_k74_whole_roads_shut_in_turns
set_option autoImplicit false
set_option Elab.async false
set_option linter.all false
set_option maxRecDepth 100000
set_option maxHeartbeats 4000000
/-! SM: data semantics over the hand layer: slots hold data (PyData), shared or owned -/
namespace SM
open PySem PySem.Spec PyProof.Rows L2

/-! ### tables that are told more of -/
/-- the code object at c has its own table at P -/
def CodeT (c P : Addr) : HO := .ext fun h => PySem.W.CodeHd h c P
/-- the tables: G of generator expressions, T of lambdas with their names, N of generator expressions that hold some -/
structure Tbs where
  G : List Addr
  T : List (Addr × Str)
  N : List Addr
  dT : ∀ p ∈ T, ∀ q ∈ T, p.1 = q.1 → p.2 = q.2
  dN : ∀ p ∈ T, p.1 ∉ N
  dG : ∀ P ∈ G, (∀ p ∈ T, p.1 ≠ P) ∧ P ∉ N
/-- the table at P: each code object that it tells has a table of its own -/
def NestOk (t : Tbs) (H : Hp) (P : Addr) : Prop := ∃ ps : Array Value, H P = some (.tbl ps) ∧ TriplesOk ps.toList ∧ ∀ (pos : Pos) (cv : Value), codeAmong pos ps.toList = some cv → ∃ c P' : Addr, cv = .ref c ∧ H c = some (CodeT c P') ∧ ∃ ps' : Array Value, H P' = some (.tbl ps') ∧ TriplesOk ps'.toList ∧ (∀ q ∈ t.T, q.1 ≠ P') ∧ P' ∉ t.N
def LamOk (t : Tbs) (H : Hp) : Prop := LamX.Tabs t.T H ∧ ∀ P ∈ t.N, NestOk t H P
def NotCode (H : Hp) (a : Addr) : Prop := (∀ q, H a ≠ some (LamX.CodeO a q)) ∧ ∀ P, H a ≠ some (CodeT a P)
theorem NotCode.lst {H : Hp} {a : Addr} {vs : List V} (h : H a = some (.lst vs)) : NotCode H a := by
  constructor
  · intro q z
    rw [h] at z
    have z := Option.some.inj z
    unfold LamX.CodeO at z
    cases z
  · intro q z
    rw [h] at z
    have z := Option.some.inj z
    unfold CodeT at z
    cases z
/-! ### heaps -/
section
variable {t : Tbs}
structure Ext (t : Tbs) (H H' : Hp) : Prop where
  keep : ∀ a o, H a = some o → (∀ ps, o ≠ .tbl ps) → H' a = some o
  tab : ∀ a ps, H a = some (.tbl ps) → ∃ ps', H' a = some (.tbl ps') ∧ (TriplesOk ps.toList → TriplesOk ps'.toList)
  lam : LamOk t H → LamOk t H'
theorem Ext.refl (H : Hp) : Ext t H H := ⟨fun _ _ h _ => h, fun _ ps h => ⟨ps, h, id⟩, id⟩
theorem Ext.trans {H H1 H2 : Hp} (a : Ext t H H1) (b : Ext t H1 H2) : Ext t H H2 where
  keep := fun c o h n => b.keep c o (a.keep c o h n) n
  tab := fun c ps h => by
    obtain ⟨p1, e1, t1⟩ := a.tab c ps h
    obtain ⟨p2, e2, t2⟩ := b.tab c p1 e1
    exact ⟨p2, e2, t2 ∘ t1⟩
  lam := b.lam ∘ a.lam
theorem Ext.back {H H' : Hp} {a : Addr} (e : Ext t H H') (h : H' a = none) : H a = none := by
  cases q : H a with
  | none => rfl
  | some o =>
    cases o with
    | tbl ps =>
      obtain ⟨p1, e1, _⟩ := e.tab a ps q
      rw [h] at e1; cases e1
    | _ =>
      have := e.keep a _ q (fun ps z => by cases z)
      rw [h] at this; cases this
theorem NestOk.ext {tb : Tbs} {H H' : Hp} {P : Addr} (t : NestOk tb H P) (e : ∀ b o, H b = some o → H' b = some o) : NestOk tb H' P := by
  obtain ⟨ps, h1, h2, h3⟩ := t
  refine ⟨ps, e _ _ h1, h2, fun pos cv hc => ?_⟩
  obtain ⟨c, P', e1, e2, ps', e3, e4⟩ := h3 pos cv hc
  exact ⟨c, P', e1, e _ _ e2, ps', e _ _ e3, e4⟩
theorem LamOk.ext {tb : Tbs} {H H' : Hp} (t : LamOk tb H) (e : ∀ b o, H b = some o → H' b = some o) : LamOk tb H' := ⟨t.1.ext e, fun P hP => (t.2 P hP).ext e⟩
/-- what is no table and no code object may change -/
theorem LamOk.upd {tb : Tbs} {H : Hp} {p : Addr} {o : HO} (t : LamOk tb H) (hc : NotCode H p) (ht : ∀ ps, H p ≠ some (.tbl ps)) : LamOk tb (upd H p o) := by
  have nt : ∀ b ps, H b = some (.tbl ps) → b ≠ p := fun b ps h z => ht ps (by rw [← z]; exact h)
  have n1 : ∀ b q, H b = some (LamX.CodeO b q) → b ≠ p := fun b q h z => by subst z; exact hc.1 q h
  have n2 : ∀ b q, H b = some (CodeT b q) → b ≠ p := fun b q h z => by subst z; exact hc.2 q h
  refine ⟨fun q hq => ?_, fun P hP => ?_⟩
  · obtain ⟨ps, h1, h2, h3⟩ := t.1 q hq
    refine ⟨ps, by rw [upd_ne (nt _ _ h1)]; exact h1, h2, fun pos cv hv => ?_⟩
    obtain ⟨c, e1, e2⟩ := h3 pos cv hv
    exact ⟨c, e1, by rw [upd_ne (n1 _ _ e2)]; exact e2⟩
  · obtain ⟨ps, h1, h2, h3⟩ := t.2 P hP
    refine ⟨ps, by rw [upd_ne (nt _ _ h1)]; exact h1, h2, fun pos cv hv => ?_⟩
    obtain ⟨c, P', e1, e2, ps', e3, e4⟩ := h3 pos cv hv
    exact ⟨c, P', e1, by rw [upd_ne (n2 _ _ e2)]; exact e2, ps', by rw [upd_ne (nt _ _ e3)]; exact e3, e4⟩
theorem Ext.new {H : Hp} {p : Addr} {o : HO} (h : H p = none) : Ext t H (upd H p o) where
  keep := fun a u e _ => by rw [upd_ne (ne_of_none e h)]; exact e
  tab := fun a ps e => ⟨ps, by rw [upd_ne (ne_of_none e h)]; exact e, id⟩
  lam := fun t => t.ext fun b u e => by rw [upd_ne (ne_of_none e h)]; exact e
/-- an object that H does not know may change -/
theorem Ext.mut {H H' : Hp} {p : Addr} {o : HO} (e : Ext t H H') (h : H p = none) (hc : NotCode H' p) (ht : ∀ ps, H' p ≠ some (.tbl ps)) : Ext t H (upd H' p o) where
  keep := fun a u q n => by rw [upd_ne (ne_of_none q h)]; exact e.keep a u q n
  tab := fun a ps q => by rw [upd_ne (ne_of_none q h)]; exact e.tab a ps q
  lam := fun t => (e.lam t).upd hc ht

end
def Le (F F' : Hp) : Prop := ∀ a o, F a = some o → F' a = some o
theorem Le.refl (F : Hp) : Le F F := fun _ _ h => h
theorem Le.trans {F F1 F2 : Hp} (a : Le F F1) (b : Le F1 F2) : Le F F2 := fun c o h => b c o (a c o h)
theorem Le.new {F : Hp} {p : Addr} {o : HO} (h : F p = none) : Le F (upd F p o) := fun a u e => by rw [upd_ne (ne_of_none e h)]; exact e
theorem Le.rd {F F' : Hp} {a : Addr} {u : HO} (e : Le F F') (h : Rd F a u) : Rd F' a u := by
  rcases h with h | ⟨o, h⟩
  · exact .inl (e a _ h)
  · exact .inr ⟨o, e a _ h⟩
theorem Le.sqL {K : PySem.W.Frag} {F F' : Hp} {a : Addr} {xs : List V} (e : Le F F') (h : SqL K F a xs) : SqL K F' a xs := by
  rcases h with h | h
  · exact .inl (e.rd h)
  · exact .inr h
theorem Le.sqT {K : PySem.W.Frag} {F F' : Hp} {a : Addr} {xs : List V} (e : Le F F') (h : SqT K F a xs) : SqT K F' a xs := by
  rcases h with h | h
  · exact .inl (e.rd h)
  · exact .inr h
end SM
namespace L2
open PySem PySem.Spec PyProof.Rows
mutual
theorem Dp.zmono {K : PySem.W.Frag} {F F' : Hp} (e : SM.Le F F') : ∀ {v : V} {d : PyData}, Dp K F v d → Dp K F' v d
  | _, _, .non => .non
  | _, _, .bl b => .bl b
  | _, _, .int i => .int i
  | _, _, .str x => .str x
  | _, _, .lst h a => .lst (e.sqL h) (DpAll.zmono e a)
  | _, _, .tup h a => .tup (e.sqT h) (DpAll.zmono e a)
theorem DpAll.zmono {K : PySem.W.Frag} {F F' : Hp} (e : SM.Le F F') : ∀ {vs : List V} {ds : List PyData}, DpAll K F vs ds → DpAll K F' vs ds
  | _, _, .nil => .nil
  | _, _, .cons h a => .cons (Dp.zmono e h) (DpAll.zmono e a)
end
theorem DpAll.zlen {K : PySem.W.Frag} {F : Hp} : ∀ {vs : List V} {ds : List PyData}, DpAll K F vs ds → vs.length = ds.length
  | _, _, .nil => rfl
  | _, _, .cons _ a => congrArg (· + 1) a.zlen
theorem DpAll.zget {K : PySem.W.Frag} {F : Hp} : ∀ {vs : List V} {ds : List PyData} {i : Nat} {d : PyData}, DpAll K F vs ds → ds[i]? = some d → ∃ v, vs[i]? = some v ∧ Dp K F v d
  | _, _, _, _, .nil, e => by simp at e
  | _, _, 0, _, .cons h _, e => by simp at e; subst e; exact ⟨_, rfl, h⟩
  | _, _, i + 1, d, .cons _ a, e => by
    obtain ⟨v, h1, h2⟩ := DpAll.zget (i := i) (d := d) a (by simpa using e)
    exact ⟨v, by simpa using h1, h2⟩
theorem DpAll.zget' {K : PySem.W.Frag} {F : Hp} : ∀ {vs : List V} {ds : List PyData} {i : Nat} {v : V}, DpAll K F vs ds → vs[i]? = some v → ∃ d, ds[i]? = some d ∧ Dp K F v d
  | _, _, _, _, .nil, e => by simp at e
  | _, _, 0, _, .cons h _, e => by simp at e; subst e; exact ⟨_, rfl, h⟩
  | _, _, i + 1, d, .cons _ a, e => by
    obtain ⟨v, h1, h2⟩ := DpAll.zget' (i := i) (v := d) a (by simpa using e)
    exact ⟨v, by simpa using h1, h2⟩
theorem DpAll.zapp {K : PySem.W.Frag} {F : Hp} : ∀ {vs us : List V} {ds es : List PyData}, DpAll K F vs ds → DpAll K F us es → DpAll K F (vs ++ us) (ds ++ es)
  | _, _, _, _, .nil, b => b
  | _, _, _, _, .cons h a, b => .cons h (a.zapp b)
theorem DpAll.ztake {K : PySem.W.Frag} {F : Hp} : ∀ {vs : List V} {ds : List PyData} (n : Nat), DpAll K F vs ds → DpAll K F (vs.take n) (ds.take n)
  | _, _, 0, _ => .nil
  | _, _, _ + 1, .nil => .nil
  | _, _, n + 1, .cons h a => .cons h (a.ztake n)
theorem DpAll.zdrop {K : PySem.W.Frag} {F : Hp} : ∀ {vs : List V} {ds : List PyData} (n : Nat), DpAll K F vs ds → DpAll K F (vs.drop n) (ds.drop n)
  | _, _, 0, a => a
  | _, _, _ + 1, .nil => .nil
  | _, _, n + 1, .cons _ a => a.zdrop n
theorem DpAll.zset {K : PySem.W.Frag} {F : Hp} {v : V} {d : PyData} (h : Dp K F v d) : ∀ {vs : List V} {ds : List PyData} (n : Nat), DpAll K F vs ds → DpAll K F (vs.set n v) (ds.set n d)
  | _, _, _, .nil => .nil
  | _, _, 0, .cons _ a => .cons h a
  | _, _, n + 1, .cons g a => .cons g (DpAll.zset h n a)
theorem DpAll.zrev {K : PySem.W.Frag} {F : Hp} : ∀ {vs : List V} {ds : List PyData}, DpAll K F vs ds → DpAll K F vs.reverse ds.reverse
  | _, _, .nil => .nil
  | _, _, .cons h a => by rw [List.reverse_cons, List.reverse_cons]; exact (a.zrev).zapp (.cons h .nil)

end L2
namespace SM
open PySem PySem.Spec PyProof.Rows L2
/-- the frozen part -/
structure HF (H F : Hp) : Prop where
  sub : ∀ a o, F a = some o → H a = some o
  ntb : ∀ a ps, F a ≠ some (.tbl ps)
section
variable {t : Tbs}
/-- from (H, F) to (H', F') in an expression -/
structure Ex2 (t : Tbs) (H F H' F' : Hp) : Prop where
  h : Ext t H H'
  f : Le F F'
  n : ∀ a o, F' a = some o → F a = none → H a = none
theorem Ex2.refl (H F : Hp) : Ex2 t H F H F := ⟨Ext.refl H, Le.refl F, fun a o h n => by rw [n] at h; cases h⟩
theorem Ex2.trans {H F H1 F1 H2 F2 : Hp} (a : Ex2 t H F H1 F1) (b : Ex2 t H1 F1 H2 F2) : Ex2 t H F H2 F2 where
  h := a.h.trans b.h
  f := a.f.trans b.f
  n := fun c o h n => by
    cases q : F1 c with
    | none => exact a.h.back (b.n c o h q)
    | some u => exact a.n c u q n

end
/-! ### slots -/
inductive Sl where
  | un | sh (d : PyData) | ow (d : PyData)
  /-- a dict that is locked: its place, its pairs -/
  | lk (n : Int) (kvs : List (PyData × PyData))
abbrev Gm := List Sl
/-- the static part: the program's, the def's (N, sc, fn), the room k, the code tables; B, F0: the heaps at the def's entry -/
structure Stat where
  P : Program
  w : World
  K : PySem.W.Frag
  mg : Str → Option Value
  base : Heap
  N : List Str
  sc : Scope
  fn : Str → Bool
  k : Nat
  tabs : Tbs
  code : Value
  B : Hp
  F0 : Hp
  qual : Str
structure IsCx (S : Stat) (X : Cx) : Prop where
  prog : X.prog = S.P
  w : X.w = S.w
  K : X.K = S.K
  mg : X.mg = S.mg
  base : X.base = S.base
  N : X.N = S.N
  sc : X.env.scope = S.sc
  fn : X.fn = S.fn
  room : Room S.k X.A
  calm : X.calm = true
  code : X.env.code = S.code
  xe : X.xe = fun _ _ => False
  qual : X.env.qual = S.qual
def TabOk (H : Hp) (P : Addr) : Prop := ∃ ps : Array Value, H P = some (.tbl ps) ∧ TriplesOk ps.toList
theorem TabOk.ext {t : Tbs} {H H' : Hp} {P : Addr} (e : Ext t H H') (h : TabOk H P) : TabOk H' P := by
  obtain ⟨ps, h1, h2⟩ := h
  obtain ⟨ps', h3, h4⟩ := e.tab P ps h1
  exact ⟨ps', h3, h4 h2⟩
/-- all tables -/
def TbsOk (t : Tbs) (H : Hp) : Prop := (∀ P ∈ t.G, TabOk H P) ∧ LamOk t H
theorem TbsOk.ext {t : Tbs} {H H' : Hp} (h : TbsOk t H) (e : Ext t H H') : TbsOk t H' := ⟨fun P hP => (h.1 P hP).ext e, e.lam h.2⟩
structure AtH (S : Stat) (H F : Hp) : Prop where
  ext : Ext S.tabs S.B H
  hf : HF H F
  f0 : Le S.F0 F
  new : ∀ a o, F a = some o → S.F0 a = none → S.B a = none
  tabs : TbsOk S.tabs H
/-- pairs with ints as keys -/
inductive DK (K : PySem.W.Frag) (F : Hp) : List (Key × V) → List (PyData × PyData) → Prop
  | nil : DK K F [] []
  | cons {i : Int} {v : V} {d : PyData} {ks : List (Key × V)} {kvs : List (PyData × PyData)} (h : Dp K F v d) (t : DK K F ks kvs) : DK K F ((.inl i, v) :: ks) ((.int i, d) :: kvs)
theorem DK.zmono {K : PySem.W.Frag} {F F' : Hp} (e : Le F F') : ∀ {ks : List (Key × V)} {kvs : List (PyData × PyData)}, DK K F ks kvs → DK K F' ks kvs
  | _, _, .nil => .nil
  | _, _, .cons h t => .cons (Dp.zmono e h) (t.zmono e)
/-- what an owned thing is: a list, a dict -/
def OwnC (K : PySem.W.Frag) (H F : Hp) (a : Addr) : PyData → Prop
  | .list ds => ∃ vs, H a = some (.lst vs) ∧ DpAll K F vs ds
  | .dict kvs => ∃ ks, H a = some (.dK ks) ∧ DK K F ks kvs
  | _ => False
/-- an owned thing at a -/
def Own (S : Stat) (H F : Hp) (a : Addr) (d : PyData) : Prop := S.B a = none ∧ F a = none ∧ OwnC S.K H F a d
theorem OwnC.cases {K : PySem.W.Frag} {H F : Hp} {a : Addr} {d : PyData} (h : OwnC K H F a d) : (∃ ds vs, d = .list ds ∧ H a = some (.lst vs) ∧ DpAll K F vs ds) ∨ ∃ kvs ks, d = .dict kvs ∧ H a = some (.dK ks) ∧ DK K F ks kvs := by
  unfold OwnC at h
  split at h
  · obtain ⟨vs, h1, h2⟩ := h
    exact .inl ⟨_, vs, rfl, h1, h2⟩
  · obtain ⟨ks, h1, h2⟩ := h
    exact .inr ⟨_, ks, rfl, h1, h2⟩
  · exact h.elim
structure At (S : Stat) (γ : Gm) (σ : L2.St) (H F : Hp) : Prop extends AtH S H F where
  len : σ.length = γ.length
  sh : ∀ (i : Nat) (d : PyData), γ[i]? = some (.sh d) → ∃ v, σ[i]? = some (some v) ∧ Dp S.K F v d
  ow : ∀ (i : Nat) (d : PyData), γ[i]? = some (.ow d) → ∃ a, σ[i]? = some (some (.ref a)) ∧ Own S H F a d
  apart : ∀ (i j : Nat) (d e : PyData) (a : Addr), γ[i]? = some (.ow d) → γ[j]? = some (.ow e) → σ[i]? = some (some (.ref a)) → σ[j]? = some (some (.ref a)) → i = j
  lk : ∀ (i : Nat) (n : Int) (kvs : List (PyData × PyData)), γ[i]? = some (.lk n kvs) → ∃ (a : Addr) (o : Obj) (ks : List (Key × V)), n = (a : Nat) ∧ σ[i]? = some (some (.ref a)) ∧ F a = some (.frz o (.dK ks)) ∧ DK S.K F ks kvs
theorem Own.fnone {S : Stat} {H F : Hp} {a : Addr} {d : PyData} (h : Own S H F a d) : F a = none := h.2.1
theorem Own.bnone {S : Stat} {H F : Hp} {a : Addr} {d : PyData} (h : Own S H F a d) : S.B a = none := h.1
theorem Own.there {S : Stat} {H F : Hp} {a : Addr} {d : PyData} (h : Own S H F a d) : ∃ o, H a = some o ∧ ∀ ps, o ≠ .tbl ps := by
  rcases h.2.2.cases with ⟨ds, vs, _, h1, _⟩ | ⟨kvs, ks, _, h1, _⟩ <;> exact ⟨_, h1, fun ps z => by cases z⟩
theorem Own.keep {S : Stat} {H F H' F' : Hp} {a : Addr} {d : PyData} (h : Own S H F a d) (e : ∀ o, H a = some o → H' a = some o) (f : Le F F') (n : F' a = none) : Own S H' F' a d := by
  obtain ⟨h1, _, h3⟩ := h
  refine ⟨h1, n, ?_⟩
  rcases h3.cases with ⟨ds, vs, rfl, h4, h5⟩ | ⟨kvs, ks, rfl, h4, h5⟩
  · exact ⟨vs, e _ h4, h5.zmono f⟩
  · exact ⟨ks, e _ h4, h5.zmono f⟩
theorem AtH.ex {S : Stat} {H F H' F' : Hp} (h : AtH S H F) (x : Ex2 S.tabs H F H' F') (hf : HF H' F') : AtH S H' F' where
  ext := h.ext.trans x.h
  hf := hf
  f0 := h.f0.trans x.f
  new := fun a o e n => by
    cases q : F a with
    | some u => exact h.new a u q n
    | none => exact h.ext.back (x.n a o e q)
  tabs := h.tabs.ext x.h
theorem At.ex {S : Stat} {γ : Gm} {σ : L2.St} {H F H' F' : Hp} (h : At S γ σ H F) (x : Ex2 S.tabs H F H' F') (hf : HF H' F') : At S γ σ H' F' where
  toAtH := h.toAtH.ex x hf
  len := h.len
  sh := fun i d e => by
    obtain ⟨v, h1, h2⟩ := h.sh i d e
    exact ⟨v, h1, h2.zmono x.f⟩
  ow := fun i d e => by
    obtain ⟨a, h1, h2⟩ := h.ow i d e
    obtain ⟨o, ho, nt⟩ := h2.there
    refine ⟨a, h1, h2.keep (fun o' e' => ?_) x.f ?_⟩
    · rw [ho] at e'; cases e'; exact x.h.keep a o ho nt
    · cases q : F' a with
      | none => rfl
      | some u => have := x.n a u q h2.fnone; rw [ho] at this; cases this
  apart := h.apart
  lk := fun i n kvs e => by
    obtain ⟨a, o, ks, h1, h2, h3, h4⟩ := h.lk i n kvs e
    exact ⟨a, o, ks, h1, h2, x.f _ _ h3, h4.zmono x.f⟩
theorem HF.new {H F : Hp} {p : Addr} {o : HO} (h : HF H F) (hp : H p = none) (nt : ∀ ps, o ≠ .tbl ps) : HF (upd H p o) (upd F p o) where
  sub := fun a u e => by
    by_cases ha : a = p
    · subst ha; rw [upd_same] at e; cases e; exact upd_same
    · rw [upd_ne ha] at e; rw [upd_ne ha]; exact h.sub a u e
  ntb := fun a ps e => by
    by_cases ha : a = p
    · subst ha; rw [upd_same] at e; cases e; exact nt ps rfl
    · rw [upd_ne ha] at e; exact h.ntb a ps e
theorem HF.newH {H F : Hp} {p : Addr} {o : HO} (h : HF H F) (hp : H p = none) : HF (upd H p o) F where
  sub := fun a u e => by rw [upd_ne (ne_of_none (h.sub a u e) hp)]; exact h.sub a u e
  ntb := h.ntb
theorem HF.fnone {H F : Hp} {p : Addr} (h : HF H F) (hp : H p = none) : F p = none := by
  cases q : F p with
  | none => rfl
  | some o => rw [h.sub p o q] at hp; cases hp
/-- a new shared object -/
theorem ex_new {t : Tbs} {H F : Hp} {p : Addr} {o : HO} (h : HF H F) (hp : H p = none) : Ex2 t H F (upd H p o) (upd F p o) where
  h := Ext.new hp
  f := Le.new (h.fnone hp)
  n := fun a u e n => by
    by_cases ha : a = p
    · subst ha; exact hp
    · rw [upd_ne ha, n] at e; cases e
/-- a new object that is not shared yet -/
theorem ex_newH {t : Tbs} {H F : Hp} {p : Addr} {o : HO} (hp : H p = none) : Ex2 t H F (upd H p o) F where
  h := Ext.new hp
  f := Le.refl F
  n := fun a u e n => by rw [n] at e; cases e
/-- what stands in H is shared from now on -/
theorem HF.share {H F : Hp} {p : Addr} {o : HO} (h : HF H F) (hp : H p = some o) (nt : ∀ ps, o ≠ .tbl ps) : HF H (upd F p o) where
  sub := fun a u e => by
    by_cases ha : a = p
    · subst ha; rw [upd_same] at e; cases e; exact hp
    · rw [upd_ne ha] at e; exact h.sub a u e
  ntb := fun a ps e => by
    by_cases ha : a = p
    · subst ha; rw [upd_same] at e; cases e; exact nt ps rfl
    · rw [upd_ne ha] at e; exact h.ntb a ps e

/-! ### what is wanted of a piece of code, whatever its context -/
def wE (S : Stat) (e : Expr) : TE := fun σ H Q => ∀ X, IsCx S X → ∀ pins s, Inv X pins σ H s → wpAny (model X.prog X.w) X.A (eval e X.env) (EP X pins σ Q) X.xe s
def wT (S : Stat) (e : Expr) : TT := fun σ H Q => ∀ X, IsCx S X → ∀ pins s, Inv X pins σ H s → wpAny (model X.prog X.w) X.A (isTrue e X.env (eval e X.env)) (TP X pins σ Q) X.xe s
def wW (S : Stat) (e : Expr) : TT := fun σ H Q => ∀ X, IsCx S X → ∀ wh pins s, Inv X pins σ H s → wpAny (model X.prog X.w) X.A (isTrue e X.env wh) (TP X pins σ Q) X.xe s
def wA (S : Stat) (es : List Expr) : TA := fun σ H Q => ∀ X, IsCx S X → ∀ pos pins s, Inv X pins σ H s → wpAny (model X.prog X.w) X.A (spliced (backTo pos (starEach es X.env))) (AP X pins σ Q) X.xe s
def wS (S : Stat) (ss : List Stmt) : TS := fun D σ H => ∀ X, IsCx S X → ∀ pins s, Inv X pins σ H s → wpAny (model X.prog X.w) X.A (execs ss X.env) (SP X pins D) X.xe s
def wS1 (S : Stat) (st : Stmt) : TS := fun D σ H => ∀ X, IsCx S X → ∀ pins s, Inv X pins σ H s → wpAny (model X.prog X.w) X.A (exec st X.env) (SP X pins D) X.xe s
def wG (S : Stat) (tg : Expr) : TG := fun v σ H Q => ∀ X, IsCx S X → ∀ pins s u, Inv X pins σ H s → RelV v u → wpAny (model X.prog X.w) X.A (assign tg X.env u) (fun _ s' => ∃ σ' H', Inv X pins σ' H' s' ∧ Q σ' H') X.xe s
def wI (S : Stat) (tg iter : Expr) : TI := fun σ H R => ∀ X, IsCx S X → ∀ pins s, Inv X pins σ H s → wpAny (model X.prog X.w) X.A (eval iter X.env) (fun v s1 => wpAny (model X.prog X.w) X.A (pyIter v) (PIE X pins σ tg R) X.xe s1) X.xe s
section
variable {S : Stat} {X : Cx} {e tg iter : Expr} {es : List Expr} {ss : List Stmt} {st : Stmt} {σ : L2.St} {H : Hp}
theorem pe_w (hX : IsCx S X) : PE X e (wE S e) := ⟨fun pins s _ _ _ I h => h X hX pins s I⟩
theorem pt_w (hX : IsCx S X) : PT X e (wT S e) := ⟨fun pins s _ _ _ I h => h X hX pins s I⟩
theorem pw_w (hX : IsCx S X) : PW X e (wW S e) := ⟨fun wh pins s _ _ _ I h => h X hX wh pins s I⟩
theorem pa_w (hX : IsCx S X) : PA X es (wA S es) := ⟨fun pos pins s _ _ _ I h => h X hX pos pins s I⟩
theorem pss_w (hX : IsCx S X) : PSs X ss (wS S ss) := ⟨fun pins s _ _ _ I h => h X hX pins s I⟩
theorem ps_w (hX : IsCx S X) : PS X st (wS1 S st) := ⟨fun pins s _ _ _ I h => h X hX pins s I⟩
theorem pg_w (hX : IsCx S X) : PG X tg (wG S tg) := ⟨fun pins s _ _ _ _ _ I r h => h X hX pins s _ I r⟩
theorem pi_w (hX : IsCx S X) : PI X tg iter (wI S tg iter) := ⟨fun pins s _ _ _ I h => h X hX pins s I⟩
theorem wE_of {t : TE} {Q : VK} (h : ∀ X, IsCx S X → PE X e t) (q : t σ H Q) : wE S e σ H Q := fun X hX pins s I => (h X hX).run pins s σ H Q I q
theorem wT_of {t : TT} {Q : Bool → Hp → Prop} (h : ∀ X, IsCx S X → PT X e t) (q : t σ H Q) : wT S e σ H Q := fun X hX pins s I => (h X hX).run pins s σ H Q I q
theorem wW_of {t : TT} {Q : Bool → Hp → Prop} (h : ∀ X, IsCx S X → PW X e t) (q : t σ H Q) : wW S e σ H Q := fun X hX wh pins s I => (h X hX).run wh pins s σ H Q I q
theorem wA_of {t : TA} {Q : List V → Hp → Prop} (h : ∀ X, IsCx S X → PA X es t) (q : t σ H Q) : wA S es σ H Q := fun X hX pos pins s I => (h X hX).run pos pins s σ H Q I q
theorem wS_of {t : TS} {D : Ends} (h : ∀ X, IsCx S X → PSs X ss t) (q : t D σ H) : wS S ss D σ H := fun X hX pins s I => (h X hX).run pins s σ H D I q
theorem wS1_of {t : TS} {D : Ends} (h : ∀ X, IsCx S X → PS X st t) (q : t D σ H) : wS1 S st D σ H := fun X hX pins s I => (h X hX).run pins s σ H D I q
theorem wG_of {t : TG} {v : V} {Q : L2.St → Hp → Prop} (h : ∀ X, IsCx S X → PG X tg t) (q : t v σ H Q) : wG S tg v σ H Q := fun X hX pins s u I r => (h X hX).run pins s σ H v u Q I r q
theorem wI_of {t : TI} {R : It → Hp → Prop} (h : ∀ X, IsCx S X → PI X tg iter t) (q : t σ H R) : wI S tg iter σ H R := fun X hX pins s I => (h X hX).run pins s σ H R I q
theorem EP.mono {X : Cx} {pins : List (Addr × Obj)} {Q Q' : VK} {u : Value} {s : Shared} (h : EP X pins σ Q u s) (w : ∀ v H, Q v H → Q' v H) : EP X pins σ Q' u s := by
  obtain ⟨v, H', I, r, q⟩ := h
  exact ⟨v, H', I, r, w _ _ q⟩
theorem wE_mono {Q Q' : VK} (h : wE S e σ H Q) (w : ∀ v H, Q v H → Q' v H) : wE S e σ H Q' := fun X hX pins s I => thn (h X hX pins s I) fun _ _ q => EP.mono q w
theorem wT_mono {Q Q' : Bool → Hp → Prop} (h : wT S e σ H Q) (w : ∀ v H, Q v H → Q' v H) : wT S e σ H Q' := fun X hX pins s I => thn (h X hX pins s I) fun _ _ ⟨H', I', q⟩ => ⟨H', I', w _ _ q⟩
end

/-! ### judgements -/
/-- an expression's value, as P tells of value, heap ahead, heap behind, frozen part behind -/
def EW (S : Stat) (γ : Gm) (e : Expr) (P : V → Hp → Hp → Hp → Prop) : Prop :=
  ∀ σ H F, At S γ σ H F → ∀ Q : VK, (∀ v H' F', At S γ σ H' F' → Ex2 S.tabs H F H' F' → P v H H' F' → Q v H') → wE S e σ H Q
/-- it evaluates to the data d, shared -/
def EJ (S : Stat) (γ : Gm) (e : Expr) (d : PyData) : Prop := EW S γ e fun v _ _ F' => Dp S.K F' v d
inductive SK where | l | t
def SqX (K : PySem.W.Frag) (H : Hp) (a : Addr) (xs : List V) : SK → Prop
  | .l => SqL K H a xs
  | .t => SqT K H a xs
/-- it evaluates to a list or tuple of ds, to be read -/
def QJ (S : Stat) (γ : Gm) (e : Expr) (k : SK) (ds : List PyData) : Prop := EW S γ e fun v _ H' F' => ∃ a vs, v = .ref a ∧ SqX S.K H' a vs k ∧ DpAll S.K F' vs ds
/-- it evaluates to a new list of ds -/
def FJ (S : Stat) (γ : Gm) (e : Expr) (ds : List PyData) : Prop := EW S γ e fun v H H' F' => ∃ a vs, v = .ref a ∧ H a = none ∧ F' a = none ∧ H' a = some (.lst vs) ∧ DpAll S.K F' vs ds
/-- a test -/
def TJ (S : Stat) (γ : Gm) (e : Expr) (b : Bool) : Prop :=
  ∀ σ H F, At S γ σ H F → ∀ Q : Bool → Hp → Prop, (∀ H' F', At S γ σ H' F' → Ex2 S.tabs H F H' F' → Q b H') → wT S e σ H Q
def WJ (S : Stat) (γ : Gm) (e : Expr) (b : Bool) : Prop :=
  ∀ σ H F, At S γ σ H F → ∀ Q : Bool → Hp → Prop, (∀ H' F', At S γ σ H' F' → Ex2 S.tabs H F H' F' → Q b H') → wW S e σ H Q
/-- arguments -/
def AJ (S : Stat) (γ : Gm) (es : List Expr) (ds : List PyData) : Prop :=
  ∀ σ H F, At S γ σ H F → ∀ Q : List V → Hp → Prop, (∀ vs H' F', At S γ σ H' F' → Ex2 S.tabs H F H' F' → DpAll S.K F' vs ds → Q vs H') → wA S es σ H Q
section
variable {S : Stat} {γ : Gm} {e a b c : Expr} {d : PyData} {ds : List PyData} {pos : Pos}
theorem SqX.ext {tb : Tbs} {K : PySem.W.Frag} {H H' : Hp} {a : Addr} {xs : List V} {k : SK} (e : Ext tb H H') (h : SqX K H a xs k) : SqX K H' a xs k := by
  cases k with
  | l =>
    rcases h with h | h
    · rcases h with h | ⟨o, h⟩
      · exact .inl (.inl (e.keep _ _ h fun _ z => by cases z))
      · exact .inl (.inr ⟨o, e.keep _ _ h fun _ z => by cases z⟩)
    · exact .inr h
  | t =>
    rcases h with h | h
    · rcases h with h | ⟨o, h⟩
      · exact .inl (.inl (e.keep _ _ h fun _ z => by cases z))
      · exact .inl (.inr ⟨o, e.keep _ _ h fun _ z => by cases z⟩)
    · exact .inr h
theorem SqX.le {K : PySem.W.Frag} {F F' : Hp} {a : Addr} {xs : List V} {k : SK} (e : Le F F') (h : SqX K F a xs k) : SqX K F' a xs k := by
  cases k with
  | l => exact e.sqL h
  | t => exact e.sqT h
theorem HF.le {H F : Hp} (h : HF H F) : Le F H := h.sub
theorem EW.imp {P P' : V → Hp → Hp → Hp → Prop} (h : EW S γ e P) (w : ∀ v H H' F', AtH S H' F' → P v H H' F' → P' v H H' F') : EW S γ e P' :=
  fun σ H F at_ Q q => h σ H F at_ Q fun v H' F' a x p => q v H' F' a x (w v H H' F' a.toAtH p)
/-- a new list, shared from now on -/
theorem FJ.ej (h : FJ S γ e ds) : EJ S γ e (.list ds) := fun σ H F at_ Q q => h σ H F at_ Q fun v H' F' a1 x ⟨a, vs, e1, h1, h2, h3, h4⟩ => by
  subst e1
  have hf : HF H' (upd F' a (.lst vs)) := a1.hf.share h3 fun _ z => by cases z
  have x2 : Ex2 S.tabs H F H' (upd F' a (.lst vs)) := ⟨x.h, x.f.trans (Le.new h2), fun b o e n => by
    by_cases hb : b = a
    · subst hb; exact h1
    · rw [upd_ne hb] at e; exact x.n b o e n⟩
  exact q _ H' _ (at_.ex x2 hf) x2 (.lst (SqL.of upd_same) (h4.zmono (Le.new h2)))
theorem EJ.ql (h : EJ S γ e (.list ds)) : QJ S γ e .l ds := EW.imp h fun v H H' F' at_ p => by
  cases p with
  | lst h1 h2 => exact ⟨_, _, rfl, at_.hf.le.sqL h1, h2⟩
theorem EJ.qt (h : EJ S γ e (.tuple ds)) : QJ S γ e .t ds := EW.imp h fun v H H' F' at_ p => by
  cases p with
  | tup h1 h2 => exact ⟨_, _, rfl, at_.hf.le.sqT h1, h2⟩
theorem FJ.q (h : FJ S γ e ds) : QJ S γ e .l ds := EW.imp h fun v H H' F' at_ ⟨a, vs, e1, h1, h2, h3, h4⟩ => ⟨a, vs, e1, SqL.of h3, h4⟩

/-! names, constants -/
theorem e_var {i : Nat} {x : Str} (hN : S.N[i]? = some x) (hv : Vis S.sc x) (hg : γ[i]? = some (.sh d)) (hd : (x == ("__debug__" : Str)) = false := by decide) (hcd : (x == ("__classdict__" : Str)) = false := by decide) : EJ S γ (.Name x pos) d := fun σ H F at_ Q q => by
  obtain ⟨v, h1, h2⟩ := at_.sh i d hg
  exact wE_of (fun X hX => pe_var (by rw [hX.N]; exact hN) (by rw [hX.sc]; exact hv) hd hcd) ⟨v, h1, q v H F at_ (Ex2.refl H F) h2⟩
theorem q_own {i : Nat} {x : Str} (hN : S.N[i]? = some x) (hv : Vis S.sc x) (hg : γ[i]? = some (.ow (.list ds))) (hd : (x == ("__debug__" : Str)) = false := by decide) (hcd : (x == ("__classdict__" : Str)) = false := by decide) : QJ S γ (.Name x pos) .l ds := fun σ H F at_ Q q => by
  obtain ⟨a, h1, _, _, vs, h2, h3⟩ := at_.ow i _ hg
  exact wE_of (fun X hX => pe_var (by rw [hX.N]; exact hN) (by rw [hX.sc]; exact hv) hd hcd) ⟨.ref a, h1, q _ H F at_ (Ex2.refl H F) ⟨a, vs, rfl, SqL.of h2, h3⟩⟩
theorem e_c {v : V} (h : ∀ X, PE X e (tC v)) (hd : ∀ F, Dp S.K F v d) : EJ S γ e d := fun σ H F at_ Q q => wE_of (fun X _ => h X) (q v H F at_ (Ex2.refl H F) (hd F))
theorem e_int {i : Int} {j} : EJ S γ (.Constant (.int i) j pos) (.int i) := e_c (fun _ => pe_int) fun _ => .int i
theorem e_bl {i : Bool} {j} : EJ S γ (.Constant (.bool i) j pos) (.bool i) := e_c (fun _ => pe_bl) fun _ => .bl i
theorem e_non {j} : EJ S γ (.Constant .none j pos) .none := e_c (fun _ => pe_non) fun _ => .non
theorem e_str {x : Str} {j} : EJ S γ (.Constant (.str x) j pos) (.str x) := e_c (fun _ => pe_str) fun _ => .str x

/-! two operands -/
theorem e_bin {op : Operator} {r : R2} {da db dc : PyData} (ho : ∀ X, IsCx S X → OpR X (binaryOp op) r) (ha : EJ S γ a da) (hb : EJ S γ b db)
    (hr : ∀ v u H F Q, AtH S H F → Dp S.K F v da → Dp S.K F u db → (∀ w H' F', HF H' F' → Ex2 S.tabs H F H' F' → Dp S.K F' w dc → Q w H') → r v u H Q) : EJ S γ (.BinOp a op b pos) dc := fun σ H F at_ Q q =>
  wE_of (fun X hX => pe_op (ho X hX) (pe_w hX) (pe_w hX)) (ha σ H F at_ _ fun v H1 F1 a1 x1 d1 => hb σ H1 F1 a1 _ fun u H2 F2 a2 x2 d2 =>
    hr v u H2 F2 Q a2.toAtH (d1.zmono x2.f) d2 fun w H3 F3 hf x3 d3 => q w H3 F3 (a2.ex x3 hf) ((x1.trans x2).trans x3) d3)
theorem e_binI {op : Operator} {C : Int → Int → Prop} {g : Int → Int → Int} {x y : Int} (ho : ∀ X, IsCx S X → OpR X (binaryOp op) (rI C fun i j => .int (g i j))) (ha : EJ S γ a (.int x)) (hb : EJ S γ b (.int y)) (hc : C x y) : EJ S γ (.BinOp a op b pos) (.int (g x y)) :=
  e_bin ho ha hb fun v u H F Q at_ d1 d2 q => by cases d1; cases d2; exact ⟨_, _, rfl, rfl, hc, q _ H F at_.hf (Ex2.refl H F) (.int _)⟩
theorem e_binI0 {op : Operator} {g : Int → Int → Int} {x y : Int} (ho : ∀ X, IsCx S X → OpR X (binaryOp op) (rI0 fun i j => .int (g i j))) (ha : EJ S γ a (.int x)) (hb : EJ S γ b (.int y)) : EJ S γ (.BinOp a op b pos) (.int (g x y)) :=
  e_bin ho ha hb fun v u H F Q at_ d1 d2 q => by cases d1; cases d2; exact ⟨_, _, rfl, rfl, q _ H F at_.hf (Ex2.refl H F) (.int _)⟩
theorem e_add {x y : Int} (ha : EJ S γ a (.int x)) (hb : EJ S γ b (.int y)) : EJ S γ (.BinOp a .Add b pos) (.int (x + y)) := e_binI0 (fun _ _ => op_add) ha hb
theorem e_sub {x y : Int} (ha : EJ S γ a (.int x)) (hb : EJ S γ b (.int y)) : EJ S γ (.BinOp a .Sub b pos) (.int (x - y)) := e_binI0 (fun _ _ => op_sub) ha hb
theorem e_mul {x y : Int} (ha : EJ S γ a (.int x)) (hb : EJ S γ b (.int y)) (hc : CMul x y) : EJ S γ (.BinOp a .Mult b pos) (.int (x * y)) := e_binI (fun _ _ => op_mul) ha hb hc
theorem e_fdiv {x y : Int} (ha : EJ S γ a (.int x)) (hb : EJ S γ b (.int y)) (hc : CDiv x y) : EJ S γ (.BinOp a .FloorDiv b pos) (.int (x / y)) := e_binI (fun _ _ => op_fdiv) ha hb hc
theorem e_mod {x y : Int} (ha : EJ S γ a (.int x)) (hb : EJ S γ b (.int y)) (hc : 0 < y) : EJ S γ (.BinOp a .Mod b pos) (.int (x % y)) := e_binI (fun _ _ => op_mod) ha hb hc
theorem e_pow {x y : Int} (ha : EJ S γ a (.int x)) (hb : EJ S γ b (.int y)) (hc : CPow x y) : EJ S γ (.BinOp a .Pow b pos) (.int (x ^ y.toNat)) := e_binI (fun _ _ => op_pow) ha hb hc
theorem e_neg {x : Int} (ha : EJ S γ a (.int x)) : EJ S γ (.UnaryOp .USub a pos) (.int (-x)) := fun σ H F at_ Q q =>
  wE_of (fun X hX => pe_un un_neg (pe_w hX)) (ha σ H F at_ _ fun v H1 F1 a1 x1 d1 => by cases d1; exact ⟨_, rfl, q _ H1 F1 a1 x1 (.int _)⟩)
end
end SM

set_option autoImplicit false
set_option Elab.async false
set_option linter.all false
set_option maxRecDepth 100000
set_option maxHeartbeats 4000000
namespace SM
open PySem PySem.Spec PyProof.Rows L2
section
variable {S : Stat} {γ : Gm} {e a b c : Expr} {d : PyData} {ds : List PyData} {pos : Pos}

/-! ### comparisons -/
/-- a comparison's answer -/
def CJ (S : Stat) (γ : Gm) (op : CmpOp) (a b : Expr) (k : Bool) : Prop :=
  ∃ r : R2, (∀ X, IsCx S X → OpR X (compareOp op) r) ∧ ∀ σ H F, At S γ σ H F → ∀ Q : VK, (∀ H' F', At S γ σ H' F' → Ex2 S.tabs H F H' F' → Q (.bl k) H') → tOp r (wE S a) (wE S b) σ H Q
theorem e_cmp {op : CmpOp} {k : Bool} (h : CJ S γ op a b k) (hm : behindInMarks op b = false) : EJ S γ (.Compare a [op] [b] pos) (.bool k) := fun σ H F at_ Q q => by
  obtain ⟨r, ho, h⟩ := h
  exact wE_of (fun X hX => pe_cmpR (ho X hX) (pe_w hX) (pe_w hX) hm) (h σ H F at_ Q fun H' F' a1 x => q _ H' F' a1 x (.bl _))
theorem t_cmp {op : CmpOp} {k : Bool} (h : CJ S γ op a b k) (hm : behindInMarks op b = false) : TJ S γ (.Compare a [op] [b] pos) k := fun σ H F at_ Q q => by
  obtain ⟨r, ho, h⟩ := h
  exact wT_of (fun X hX => pt_cmpR (ho X hX) (pe_w hX) (pe_w hX) hm) (h σ H F at_ _ fun H' F' a1 x => ⟨k, rfl, q H' F' a1 x⟩)
theorem c_val {op : CmpOp} {r : R2} {da db : PyData} {k : Bool} (ho : ∀ X, IsCx S X → OpR X (compareOp op) r) (ha : EJ S γ a da) (hb : EJ S γ b db)
    (hr : ∀ v u H F Q, AtH S H F → Dp S.K F v da → Dp S.K F u db → Q (.bl k) H → r v u H Q) : CJ S γ op a b k :=
  ⟨r, ho, fun σ H F at_ Q q => ha σ H F at_ _ fun v H1 F1 a1 x1 d1 => hb σ H1 F1 a1 _ fun u H2 F2 a2 x2 d2 => hr v u H2 F2 Q a2.toAtH (d1.zmono x2.f) d2 (q H2 F2 a2 (x1.trans x2))⟩
theorem c_int {op : CmpOp} {g : Int → Int → Bool} {x y : Int} (ho : ∀ X, IsCx S X → OpR X (compareOp op) (rI0 fun i j => .bl (g i j))) (ha : EJ S γ a (.int x)) (hb : EJ S γ b (.int y)) : CJ S γ op a b (g x y) :=
  c_val ho ha hb fun v u H F Q at_ d1 d2 q => by cases d1; cases d2; exact ⟨_, _, rfl, rfl, q⟩
theorem c_lt {x y : Int} (ha : EJ S γ a (.int x)) (hb : EJ S γ b (.int y)) : CJ S γ .Lt a b (decide (x < y)) := c_int (fun _ _ => op_lt) ha hb
theorem c_le {x y : Int} (ha : EJ S γ a (.int x)) (hb : EJ S γ b (.int y)) : CJ S γ .LtE a b (decide (x ≤ y)) := c_int (fun _ _ => op_le) ha hb
theorem c_gt {x y : Int} (ha : EJ S γ a (.int x)) (hb : EJ S γ b (.int y)) : CJ S γ .Gt a b (decide (y < x)) := c_int (fun _ _ => op_gt) ha hb
theorem c_ge {x y : Int} (ha : EJ S γ a (.int x)) (hb : EJ S γ b (.int y)) : CJ S γ .GtE a b (decide (y ≤ x)) := c_int (fun _ _ => op_ge) ha hb
/-- scalars as values -/
def sc1 : PyData → Option V
  | .none => some .non
  | .bool b => some (.bl b)
  | .int i => some (.int i)
  | .str s => some (.str s)
  | _ => none
theorem sc1_of {F : Hp} {K : PySem.W.Frag} {v x : V} {d : PyData} (h : Dp K F v d) (e : sc1 d = some x) : v = x := by
  cases h <;> first | exact Option.some.inj e | cases e
theorem c_eqS {da db : PyData} {x y : V} (ha : EJ S γ a da) (hb : EJ S γ b db) (hx : sc1 da = some x) (hy : sc1 db = some y) (hs : scal x y = true) : CJ S γ .Eq a b (decide (x = y)) :=
  c_val (fun _ _ => op_eq) ha hb fun v u H F Q at_ d1 d2 q => by rw [sc1_of d1 hx, sc1_of d2 hy]; exact ⟨hs, q⟩
theorem c_neS {da db : PyData} {x y : V} (ha : EJ S γ a da) (hb : EJ S γ b db) (hx : sc1 da = some x) (hy : sc1 db = some y) (hs : scal x y = true) : CJ S γ .NotEq a b (!decide (x = y)) :=
  c_val (fun _ _ => op_ne) ha hb fun v u H F Q at_ d1 d2 q => by rw [sc1_of d1 hx, sc1_of d2 hy]; exact ⟨hs, q⟩
theorem dec_iV {x y : Int} : decide (V.int x = V.int y) = decide (x = y) := by rw [dec_int]; exact Bool.beq_eq_decide_eq x y
theorem dec_bV {x y : Bool} : decide (V.bl x = V.bl y) = decide (x = y) := by rw [dec_bl]; exact Bool.beq_eq_decide_eq x y
theorem dec_sV {x y : Str} : decide (V.str x = V.str y) = decide (x = y) := by rw [Bool.eq_iff_iff]; simp
theorem c_eqI {x y : Int} (ha : EJ S γ a (.int x)) (hb : EJ S γ b (.int y)) : CJ S γ .Eq a b (decide (x = y)) := dec_iV ▸ c_eqS ha hb rfl rfl rfl
theorem c_neI {x y : Int} (ha : EJ S γ a (.int x)) (hb : EJ S γ b (.int y)) : CJ S γ .NotEq a b (!decide (x = y)) := by have := c_neS ha hb rfl rfl rfl; rw [dec_iV] at this; exact this
theorem c_eqB {x y : Bool} (ha : EJ S γ a (.bool x)) (hb : EJ S γ b (.bool y)) : CJ S γ .Eq a b (decide (x = y)) := dec_bV ▸ c_eqS ha hb rfl rfl rfl
theorem c_neB {x y : Bool} (ha : EJ S γ a (.bool x)) (hb : EJ S γ b (.bool y)) : CJ S γ .NotEq a b (!decide (x = y)) := by have := c_neS ha hb rfl rfl rfl; rw [dec_bV] at this; exact this
theorem c_eqStr {x y : Str} (ha : EJ S γ a (.str x)) (hb : EJ S γ b (.str y)) : CJ S γ .Eq a b (decide (x = y)) := dec_sV ▸ c_eqS ha hb rfl rfl rfl
def isN : PyData → Bool
  | .none => true
  | _ => false
theorem isN_of {F : Hp} {K : PySem.W.Frag} {v : V} {d : PyData} (h : Dp K F v d) : decide (v = .non) = isN d := by
  cases h <;> simp [isN]
theorem c_isN {p2 : Pos} {j : Nat} (ha : EJ S γ a d) : CJ S γ .Is a (.Constant .none j p2) (isN d) :=
  c_val (fun _ _ => op_isN) ha e_non fun v u H F Q at_ d1 d2 q => by cases d2; refine ⟨rfl, ?_⟩; rw [isN_of d1]; exact q
theorem c_notN {p2 : Pos} {j : Nat} (ha : EJ S γ a d) : CJ S γ .IsNot a (.Constant .none j p2) (!isN d) :=
  c_val (fun _ _ => op_notN) ha e_non fun v u H F Q at_ d1 d2 q => by cases d2; refine ⟨rfl, ?_⟩; rw [isN_of d1]; exact q
/-- data of any depth -/
theorem c_eqD {da db : PyData} (ha : EJ S γ a da) (hb : EJ S γ b db) (h1 : SeqAt.shaped da = true) (h2 : SeqAt.shaped db = true) : CJ S γ .Eq a b (PyData.eqv da db) :=
  c_val (r := rEqD S.K) (fun X hX => hX.K ▸ op_eqD hX.room.units) ha hb fun v u H F Q at_ d1 d2 q => ⟨_, _, d1.zmono at_.hf.le, d2.zmono at_.hf.le, h1, h2, q⟩
theorem c_neD {da db : PyData} (ha : EJ S γ a da) (hb : EJ S γ b db) (h1 : SeqAt.shaped da = true) (h2 : SeqAt.shaped db = true) : CJ S γ .NotEq a b (!PyData.eqv da db) :=
  c_val (r := rNeD S.K) (fun X hX => hX.K ▸ op_neD hX.room.units) ha hb fun v u H F Q at_ d1 d2 q => ⟨_, _, d1.zmono at_.hf.le, d2.zmono at_.hf.le, h1, h2, q⟩
/-- x < y < z, of ints -/
theorem e_chain {op op' : CmpOp} {g g' : Int → Int → Bool} {x y z : Int} (ho : ∀ X : Cx, OpR X (compareOp op) (rI0 fun i j => .bl (g i j))) (ho' : ∀ X : Cx, OpR X (compareOp op') (rI0 fun i j => .bl (g' i j)))
    (ha : EJ S γ a (.int x)) (hb : EJ S γ b (.int y)) (hc : g x y = true → EJ S γ c (.int z)) (hm : lastMarks [op, op'] [b, c] = false) : EJ S γ (.Compare a [op, op'] [b, c] pos) (.bool (g x y && g' y z)) := fun σ H F at_ Q q =>
  wE_of (fun X hX => pe_chain (ho X) (ho' X) (pe_w hX) (pe_w hX) (pe_w hX) hm) (ha σ H F at_ _ fun v H1 F1 a1 x1 d1 => hb σ H1 F1 a1 _ fun u H2 F2 a2 x2 d2 => by
    cases d1; cases d2
    refine ⟨x, y, rfl, rfl, g x y, rfl, ?_⟩
    cases hg : g x y with
    | true =>
      rw [if_pos rfl]
      refine hc hg σ H2 F2 a2 _ fun w H3 F3 a3 x3 d3 => ?_
      cases d3
      rw [hg] at q
      exact ⟨y, z, rfl, rfl, q _ H3 F3 a3 ((x1.trans x2).trans x3) (.bl _)⟩
    | false =>
      rw [if_neg Bool.false_ne_true]
      rw [hg] at q
      exact q _ H2 F2 a2 (x1.trans x2) (.bl _))

theorem t_chain {op op' : CmpOp} {g g' : Int → Int → Bool} {x y z : Int} (ho : ∀ X : Cx, OpR X (compareOp op) (rI0 fun i j => .bl (g i j))) (ho' : ∀ X : Cx, OpR X (compareOp op') (rI0 fun i j => .bl (g' i j)))
    (ha : EJ S γ a (.int x)) (hb : EJ S γ b (.int y)) (hc : g x y = true → EJ S γ c (.int z)) (hm : lastMarks [op, op'] [b, c] = false) : TJ S γ (.Compare a [op, op'] [b, c] pos) (g x y && g' y z) := fun σ H F at_ Q q =>
  wT_of (fun X hX => pt_chain (ho X) (ho' X) (pe_w hX) (pe_w hX) (pe_w hX) hm) (ha σ H F at_ _ fun v H1 F1 a1 x1 d1 => hb σ H1 F1 a1 _ fun u H2 F2 a2 x2 d2 => by
    cases d1; cases d2
    refine ⟨x, y, rfl, rfl, g x y, rfl, ?_⟩
    cases hg : g x y with
    | true =>
      rw [if_pos rfl]
      refine hc hg σ H2 F2 a2 _ fun w H3 F3 a3 x3 d3 => ?_
      cases d3
      rw [hg] at q
      exact ⟨y, z, rfl, rfl, _, rfl, q H3 F3 a3 ((x1.trans x2).trans x3)⟩
    | false =>
      rw [if_neg Bool.false_ne_true]
      rw [hg] at q
      exact ⟨_, rfl, q H2 F2 a2 (x1.trans x2)⟩)

/-! ### tests -/
theorem t_val {k : Bool} (h : EJ S γ e (.bool k)) (he : ∀ (X : Cx) whole, isTrue e X.env whole = (do let v ← whole; standAt e.pos; holding [v] (truthy v))) : TJ S γ e k := fun σ H F at_ Q q =>
  wT_of (fun X hX => pt_val (pe_w hX) (he X)) (h σ H F at_ _ fun v H1 F1 a1 x1 d1 => by cases d1; exact ⟨k, rfl, q H1 F1 a1 x1⟩)
/-- a list's or tuple's truth -/
theorem t_seq {k : SK} (h : QJ S γ e k ds) (he : ∀ (X : Cx) whole, isTrue e X.env whole = (do let v ← whole; standAt e.pos; holding [v] (truthy v))) : TJ S γ e (!ds.isEmpty) := fun σ H F at_ Q q =>
  wT_of (t := fun σ H Q => wE S e σ H fun x H' => ∃ k, TruV S.K x H' k ∧ Q k H') (fun X hX => hX.K ▸ pt_truth (pe_w hX) (he X)) (h σ H F at_ _ fun v H1 F1 a1 x1 ⟨p, vs, e1, h1, h2⟩ => by
    subst e1
    have e2 : (!vs.isEmpty) = !ds.isEmpty := by
      cases h2 <;> rfl
    refine ⟨!ds.isEmpty, ?_, q H1 F1 a1 x1⟩
    cases k with
    | l => exact .inl ⟨vs, h1, e2.symm⟩
    | t => exact .inr (.inl ⟨vs, h1, e2.symm⟩))
theorem t_not {k : Bool} (h : TJ S γ a k) : TJ S γ (.UnaryOp .Not a pos) (!k) := fun σ H F at_ Q q =>
  wT_of (fun X hX => pt_not (pt_w hX)) (h σ H F at_ _ fun H1 F1 a1 x1 => q H1 F1 a1 x1)
theorem t_w {k : Bool} (h : WJ S γ a k) : TJ S γ a k := fun σ H F at_ Q q => wT_of (fun X hX => (pw_w hX).pt) (h σ H F at_ _ q)
variable {rest : List Expr}
theorem w_and1 {k : Bool} (h : TJ S γ a k) : WJ S γ (.BoolOp .And [a] pos) k := fun σ H F at_ Q q => wW_of (fun X hX => pw_and1 (pt_w hX)) (h σ H F at_ _ q)
theorem w_or1 {k : Bool} (h : TJ S γ a k) : WJ S γ (.BoolOp .Or [a] pos) k := fun σ H F at_ Q q => wW_of (fun X hX => pw_or1 (pt_w hX)) (h σ H F at_ _ q)
theorem w_and {k l : Bool} (h : TJ S γ a k) (h2 : k = true → WJ S γ (.BoolOp .And (b :: rest) pos) l) : WJ S γ (.BoolOp .And (a :: b :: rest) pos) (k && l) := fun σ H F at_ Q q =>
  wW_of (fun X hX => pw_and (pt_w hX) (pw_w hX)) (h σ H F at_ _ fun H1 F1 a1 x1 => by
    cases k with
    | true => exact iteT (h2 rfl σ H1 F1 a1 _ fun H2 F2 a2 x2 => q H2 F2 a2 (x1.trans x2))
    | false => exact iteF (q H1 F1 a1 x1))
theorem w_or {k l : Bool} (h : TJ S γ a k) (h2 : k = false → WJ S γ (.BoolOp .Or (b :: rest) pos) l) : WJ S γ (.BoolOp .Or (a :: b :: rest) pos) (k || l) := fun σ H F at_ Q q =>
  wW_of (fun X hX => pw_or (pt_w hX) (pw_w hX)) (h σ H F at_ _ fun H1 F1 a1 x1 => by
    cases k with
    | true => exact iteT (q H1 F1 a1 x1)
    | false => exact iteF (h2 rfl σ H1 F1 a1 _ fun H2 F2 a2 x2 => q H2 F2 a2 (x1.trans x2)))
theorem e_one {op : BoolOp} (h : EJ S γ a d) : EJ S γ (.BoolOp op [a] pos) d := fun σ H F at_ Q q => wE_of (fun X hX => pe_one (pe_w hX)) (h σ H F at_ _ q)
theorem e_and {k l : Bool} (h : EJ S γ a (.bool k)) (h2 : k = true → EJ S γ (.BoolOp .And (b :: rest) pos) (.bool l)) : EJ S γ (.BoolOp .And (a :: b :: rest) pos) (.bool (k && l)) := fun σ H F at_ Q q =>
  wE_of (fun X hX => pe_and (pe_w hX) (pe_w hX)) (h σ H F at_ _ fun v H1 F1 a1 x1 d1 => by
    cases d1
    refine ⟨k, rfl, ?_⟩
    cases k with
    | true => exact iteT (h2 rfl σ H1 F1 a1 _ fun u H2 F2 a2 x2 d2 => q u H2 F2 a2 (x1.trans x2) d2)
    | false => exact iteF (q _ H1 F1 a1 x1 (.bl _)))
theorem e_or {k l : Bool} (h : EJ S γ a (.bool k)) (h2 : k = false → EJ S γ (.BoolOp .Or (b :: rest) pos) (.bool l)) : EJ S γ (.BoolOp .Or (a :: b :: rest) pos) (.bool (k || l)) := fun σ H F at_ Q q =>
  wE_of (fun X hX => pe_or (pe_w hX) (pe_w hX)) (h σ H F at_ _ fun v H1 F1 a1 x1 d1 => by
    cases d1
    refine ⟨k, rfl, ?_⟩
    cases k with
    | true => exact iteT (q _ H1 F1 a1 x1 (.bl _))
    | false => exact iteF (h2 rfl σ H1 F1 a1 _ fun u H2 F2 a2 x2 d2 => q u H2 F2 a2 (x1.trans x2) d2))
theorem e_not {k : Bool} (h : EJ S γ a (.bool k)) : EJ S γ (.UnaryOp .Not a pos) (.bool (!k)) := fun σ H F at_ Q q =>
  wE_of (fun X hX => pe_not (pe_w hX)) (h σ H F at_ _ fun v H1 F1 a1 x1 d1 => by cases d1; exact ⟨k, rfl, q _ H1 F1 a1 x1 (.bl _)⟩)
/-- a if c else b -/
theorem e_if {α : Type} {enc : α → PyData} {k : Bool} {x y : α} (hc : TJ S γ c k) (ha : k = true → EJ S γ a (enc x)) (hb : k = false → EJ S γ b (enc y)) : EJ S γ (.IfExp c a b pos) (enc (if k = true then x else y)) := fun σ H F at_ Q q =>
  wE_of (fun X hX => pe_ifExp (pt_w hX) (pe_w hX) (pe_w hX)) (hc σ H F at_ _ fun H1 F1 a1 x1 => by
    cases k with
    | true => exact iteT (ha rfl σ H1 F1 a1 _ fun u H2 F2 a2 x2 d2 => q u H2 F2 a2 (x1.trans x2) d2)
    | false => exact iteF (hb rfl σ H1 F1 a1 _ fun u H2 F2 a2 x2 d2 => q u H2 F2 a2 (x1.trans x2) d2))

/-! ### argument lists, displays -/
variable {es : List Expr}
def PlainE (e : Expr) : Prop := ∀ (es : List Expr) (env : PySem.Env), starEach (e :: es) env = (false, eval e env) :: starEach es env
theorem a_nil : AJ S γ [] [] := fun σ H F at_ Q q => wA_of (fun X hX => pa_nil) (q [] H F at_ (Ex2.refl H F) .nil)
theorem a_cons (ha : EJ S γ e d) (hr : AJ S γ es ds) (hs : PlainE e) : AJ S γ (e :: es) (d :: ds) := fun σ H F at_ Q q =>
  wA_of (fun X hX => pa_cons (pe_w hX) (pa_w hX) (hs es X.env)) (ha σ H F at_ _ fun v H1 F1 a1 x1 d1 => hr σ H1 F1 a1 _ fun vs H2 F2 a2 x2 d2 => q _ H2 F2 a2 (x1.trans x2) (.cons (d1.zmono x2.f) d2))
theorem e_tup {k : Nat} (h : AJ S γ es ds) (hl : ds.length ≤ sizeLine) : EJ S γ (.Tuple es k pos) (.tuple ds) := fun σ H F at_ Q q =>
  wE_of (fun X hX => pe_tup (pa_w hX)) (h σ H F at_ _ fun vs H1 F1 a1 x1 d1 => ⟨by rw [d1.zlen]; exact hl, fun p hp => by
    have x2 : Ex2 S.tabs H1 F1 (upd H1 p (.tup vs)) (upd F1 p (.tup vs)) := ex_new a1.hf hp
    exact q _ _ _ (a1.ex x2 (a1.hf.new hp fun _ z => by cases z)) (x1.trans x2) (.tup (SqT.of upd_same) (d1.zmono x2.f))⟩)
theorem f_lst (h : AJ S γ es ds) (hl : ds.length ≤ sizeLine) : FJ S γ (.List es pos) ds := fun σ H F at_ Q q =>
  wE_of (fun X hX => pe_lst (pa_w hX)) (h σ H F at_ _ fun vs H1 F1 a1 x1 d1 => ⟨by rw [d1.zlen]; exact hl, fun p hp => by
    have x2 : Ex2 S.tabs H1 F1 (upd H1 p (.lst vs)) F1 := ex_newH hp
    exact q _ _ _ (a1.ex x2 (a1.hf.newH hp)) (x1.trans x2) ⟨p, vs, rfl, x1.h.back hp, a1.hf.fnone hp, upd_same, d1⟩⟩)

/-! ### items, slices -/
theorem atI_map {α β : Type} (f : α → β) (xs : List α) (i : Int) : atI (xs.map f) i = (atI xs i).map f := by
  unfold atI
  rw [List.length_map]
  cases ixN xs.length i with
  | none => rfl
  | some j => simp
theorem DpAll_at {K : PySem.W.Frag} {F : Hp} {vs : List V} {i : Int} (h : DpAll K F vs ds) (e : atI ds i = some d) : ∃ v, atI vs i = some v ∧ Dp K F v d := by
  unfold atI at e ⊢
  rw [h.zlen]
  cases hj : ixN ds.length i with
  | none => rw [hj] at e; cases e
  | some j => rw [hj] at e; exact h.zget e
theorem e_ix {k : SK} {i : Int} (ha : QJ S γ a k ds) (hb : EJ S γ b (.int i)) (he : atI ds i = some d) (hs : PlainIx b) : EJ S γ (.Subscript a b pos) d := by
  cases k with
  | l => exact fun σ H F at_ Q q => wE_of (t := tOp (rIxL S.K) (wE S a) (wE S b)) (fun X hX => hX.K ▸ pe_ix ix_list (pe_w hX) (pe_w hX) hs) (ha σ H F at_ _ fun v H1 F1 a1 x1 ⟨p, vs, e1, h1, h2⟩ => hb σ H1 F1 a1 _ fun u H2 F2 a2 x2 d2 => by
      subst e1
      cases d2
      obtain ⟨w, hw, dw⟩ := DpAll_at h2 he
      exact ⟨p, vs, i, w, rfl, rfl, SqX.ext (k := .l) x2.h h1, hw, q w H2 F2 a2 (x1.trans x2) (dw.zmono x2.f)⟩)
  | t => exact fun σ H F at_ Q q => wE_of (t := tOp (rIxT S.K) (wE S a) (wE S b)) (fun X hX => hX.K ▸ pe_ix ix_tup (pe_w hX) (pe_w hX) hs) (ha σ H F at_ _ fun v H1 F1 a1 x1 ⟨p, vs, e1, h1, h2⟩ => hb σ H1 F1 a1 _ fun u H2 F2 a2 x2 d2 => by
      subst e1
      cases d2
      obtain ⟨w, hw, dw⟩ := DpAll_at h2 he
      exact ⟨p, vs, i, w, rfl, rfl, SqX.ext (k := .t) x2.h h1, hw, q w H2 F2 a2 (x1.trans x2) (dw.zmono x2.f)⟩)
theorem e_ixT {α : Type} {enc : α → PyData} {xs : List α} {x : α} {k : SK} {i : Int} (ha : QJ S γ a k (xs.map enc)) (hb : EJ S γ b (.int i)) (he : atI xs i = some x) (hs : PlainIx b) : EJ S γ (.Subscript a b pos) (enc x) :=
  e_ix ha hb (by rw [atI_map, he]; rfl) hs
/-- a written place of a fixed tuple -/
theorem e_ixC {i : Nat} {p2 : Pos} {j : Nat} (ha : EJ S γ a (.tuple ds)) (he : ds[i]? = some d) : EJ S γ (.Subscript a (.Constant (.int (i : Int)) j p2) pos) d :=
  e_ix ha.qt e_int (atI_nat he) (fun _ _ => rfl)
/-- a slice's parts -/
def wO (S : Stat) (e : Option Expr) : TO := fun σ H Q => ∀ X, IsCx S X → ∀ pins s, Inv X pins σ H s → wpAny (model X.prog X.w) X.A (evalPart e X.env) (fun u s' => ∃ o H', Inv X pins σ H' s' ∧ IsPart u o ∧ Q o H') X.xe s
def OJ (S : Stat) (γ : Gm) (e : Option Expr) (o : Option Int) : Prop := ∀ σ H F, At S γ σ H F → ∀ Q : Option Int → Hp → Prop, (∀ H' F', At S γ σ H' F' → Ex2 S.tabs H F H' F' → Q o H') → wO S e σ H Q
theorem po_w {X : Cx} {e : Option Expr} (hX : IsCx S X) : PO X e (wO S e) := ⟨fun pins s _ _ _ I h => h X hX pins s I⟩
theorem wO_of {e : Option Expr} {t : TO} {σ : L2.St} {H : Hp} {Q : Option Int → Hp → Prop} (h : ∀ X, IsCx S X → PO X e t) (q : t σ H Q) : wO S e σ H Q := fun X hX pins s I => (h X hX).run pins s σ H Q I q
theorem o_none : OJ S γ none none := fun σ H F at_ Q q => wO_of (fun X hX => po_none) (q H F at_ (Ex2.refl H F))
theorem o_some {i : Int} (h : EJ S γ e (.int i)) : OJ S γ (some e) (some i) := fun σ H F at_ Q q => wO_of (fun X hX => po_some (pe_w hX)) (h σ H F at_ _ fun v H1 F1 a1 x1 d1 => by cases d1; exact ⟨i, rfl, q H1 F1 a1 x1⟩)
/-- xs[lo:hi] -/
def cut {α : Type} (xs : List α) (lo hi : Option Int) : List α := (xs.drop (HT.sIx xs.length 0 lo)).take (HT.sIx xs.length xs.length hi - HT.sIx xs.length 0 lo)
theorem cut_map {α β : Type} (f : α → β) (xs : List α) (lo hi : Option Int) : cut (xs.map f) lo hi = (cut xs lo hi).map f := by
  unfold cut
  rw [List.length_map, List.map_take, List.map_drop]
theorem cut_dp {K : PySem.W.Frag} {F : Hp} {vs : List V} {lo hi : Option Int} (h : DpAll K F vs ds) : DpAll K F (cutV vs lo hi) (cut ds lo hi) := by
  unfold cutV cut
  rw [h.zlen]
  exact (h.zdrop _).ztake _
theorem f_sl {lo hi : Option Expr} {l u : Option Int} {p2 : Pos} (ha : QJ S γ a .l ds) (hl : OJ S γ lo l) (hu : OJ S γ hi u) : FJ S γ (.Subscript a (.Slice lo hi none p2) pos) (cut ds l u) := fun σ H F at_ Q q =>
  wE_of (t := tSl (rSlL S.K) (wE S a) (wO S lo) (wO S hi)) (fun X hX => hX.K ▸ pe_slice sl_list (pe_w hX) (po_w hX) (po_w hX)) (ha σ H F at_ _ fun v H1 F1 a1 x1 ⟨p, vs, e1, h1, h2⟩ => hl σ H1 F1 a1 _ fun H2 F2 a2 x2 => hu σ H2 F2 a2 _ fun H3 F3 a3 x3 => by
    subst e1
    refine ⟨p, vs, rfl, SqX.ext (k := .l) (x2.trans x3).h h1, fun p2 hp => ?_⟩
    have x4 : Ex2 S.tabs H3 F3 (upd H3 p2 (.lst (cutV vs l u))) F3 := ex_newH hp
    exact q _ _ _ (a3.ex x4 (a3.hf.newH hp)) (((x1.trans x2).trans x3).trans x4) ⟨p2, _, rfl, ((x1.trans x2).trans x3).h.back hp, a3.hf.fnone hp, upd_same, cut_dp (h2.zmono (x2.trans x3).f)⟩)
theorem cut_whole {α : Type} {xs : List α} {l u : Option Int} (h : HT.sIx xs.length 0 l = 0 ∧ HT.sIx xs.length xs.length u = xs.length) : cut xs l u = xs := by
  unfold cut
  rw [h.1, h.2, List.drop_zero, Nat.sub_zero, List.take_length]
theorem e_slT {lo hi : Option Expr} {l u : Option Int} {p2 : Pos} (ha : EJ S γ a (.tuple ds)) (hl : OJ S γ lo l) (hu : OJ S γ hi u) : EJ S γ (.Subscript a (.Slice lo hi none p2) pos) (.tuple (cut ds l u)) := fun σ H F at_ Q q =>
  wE_of (t := tSl (rSlA S.K) (wE S a) (wO S lo) (wO S hi)) (fun X hX => hX.K ▸ pe_slice sl_tupA (pe_w hX) (po_w hX) (po_w hX)) (ha σ H F at_ _ fun v H1 F1 a1 x1 dv => hl σ H1 F1 a1 _ fun H2 F2 a2 x2 => hu σ H2 F2 a2 _ fun H3 F3 a3 x3 => by
    cases dv with
    | @tup p vs _ h1 h2 =>
    refine ⟨p, vs, rfl, SqX.ext (k := .t) (x2.trans x3).h (a1.hf.le.sqT h1), fun hw => ?_, fun _ p2 hp => ?_⟩
    · rw [h2.zlen] at hw
      refine q _ H3 F3 a3 ((x1.trans x2).trans x3) ?_
      rw [cut_whole hw]
      exact (Dp.tup h1 h2).zmono (x2.trans x3).f
    · have x4 : Ex2 S.tabs H3 F3 (upd H3 p2 (.tup (cutV vs l u))) (upd F3 p2 (.tup (cutV vs l u))) := ex_new a3.hf hp
      exact q _ _ _ (a3.ex x4 (a3.hf.new hp fun _ z => by cases z)) (((x1.trans x2).trans x3).trans x4) (.tup (SqT.of upd_same) (cut_dp (h2.zmono ((x2.trans x3).trans x4).f))))
theorem e_slTT {α : Type} {enc : α → PyData} {xs : List α} {lo hi : Option Expr} {l u : Option Int} {p2 : Pos} (ha : EJ S γ a (.tuple (xs.map enc))) (hl : OJ S γ lo l) (hu : OJ S γ hi u) : EJ S γ (.Subscript a (.Slice lo hi none p2) pos) (.tuple ((cut xs l u).map enc)) := by
  rw [← cut_map]; exact e_slT ha hl hu
theorem f_slT {α : Type} {enc : α → PyData} {xs : List α} {lo hi : Option Expr} {l u : Option Int} {p2 : Pos} (ha : QJ S γ a .l (xs.map enc)) (hl : OJ S γ lo l) (hu : OJ S γ hi u) : FJ S γ (.Subscript a (.Slice lo hi none p2) pos) ((cut xs l u).map enc) := by
  rw [← cut_map]; exact f_sl ha hl hu
theorem f_rev {k : Nat} {p1 p2 p3 : Pos} (ha : QJ S γ a .l ds) : FJ S γ (.Subscript a (.Slice none none (some (.UnaryOp .USub (.Constant (.int 1) k p1) p2)) p3) pos) ds.reverse := fun σ H F at_ Q q =>
  wE_of (t := tRevL S.K (wE S a)) (fun X hX => hX.K ▸ pe_revL (pe_w hX)) (ha σ H F at_ _ fun v H1 F1 a1 x1 ⟨p, vs, e1, h1, h2⟩ => by
    subst e1
    refine ⟨p, vs, rfl, h1, fun p2 hp => ?_⟩
    have x4 : Ex2 S.tabs H1 F1 (upd H1 p2 (.lst vs.reverse)) F1 := ex_newH hp
    exact q _ _ _ (a1.ex x4 (a1.hf.newH hp)) (x1.trans x4) ⟨p2, _, rfl, x1.h.back hp, a1.hf.fnone hp, upd_same, h2.zrev⟩)
end
end SM

set_option autoImplicit false
set_option Elab.async false
set_option linter.all false
set_option maxRecDepth 100000
set_option maxHeartbeats 4000000
namespace SM
open PySem PySem.Spec PyProof.Rows L2
section
variable {S : Stat} {γ : Gm} {e a b c : Expr} {d : PyData} {ds es : List PyData} {pos p : Pos}

/-! ### calls of built-ins -/
/-- the name is the module's or a built-in's -/
abbrev IsGl (S : Stat) (x : Str) : Prop := S.sc.names.lookup x = some .globalImplicit
theorem IsCx.gl {X : Cx} {x : Str} (hX : IsCx S X) (h : IsGl S x) : Gl X x := by
  show X.env.scope.names.lookup x = some .globalImplicit
  rw [hX.sc]; exact h
theorem IsCx.mgn {X : Cx} {x : Str} {o : Option Value} (hX : IsCx S X) (h : S.mg x = o) : X.mg x = o := by rw [hX.mg]; exact h
/-- f(a), f a built-in function: the argument as P tells -/
theorem w_b1 {id : String} {x : Str} {r : List V → Hp → VK → Prop} {P P' : V → Hp → Hp → Hp → Prop} (ho : ∀ X, IsCx S X → CallR X (.builtin id) r) (hg : IsGl S x) (hm : S.mg x = none) (hv : bootBuiltins x = some (.builtin id)) (hs : PlainE a) (ha : EW S γ a P)
    (hr : ∀ v H0 F0 H F Q, AtH S H F → Ex2 S.tabs H0 F0 H F → P v H0 H F → (∀ w H' F', HF H' F' → Ex2 S.tabs H F H' F' → P' w H0 H' F' → Q w H') → r [v] H Q) (hn : x ≠ "__name__") (hdb : (x == ("__debug__" : Str)) = false) : EW S γ (.Call (.Name x p) [a] [] pos) P' := fun σ H F at_ Q q =>
  wE_of (fun X hX => pe_callB (ho X hX) (hX.gl hg) (hX.mgn hm) hv (pa_cons (pe_w hX) pa_nil (hs [] X.env)) hn hdb (hs [] X.env) rfl) (ha σ H F at_ _ fun v H1 F1 a1 x1 p1 =>
    hr v H F H1 F1 Q a1.toAtH x1 p1 fun w H2 F2 hf x2 p2 => q w H2 F2 (a1.ex x2 hf) (x1.trans x2) p2)
theorem w_t1 {T : String} {x : Str} {r : List V → Hp → VK → Prop} {P P' : V → Hp → Hp → Hp → Prop} (ho : ∀ X, IsCx S X → CallR X (.type T) r) (hg : IsGl S x) (hm : S.mg x = none) (hv : bootBuiltins x = some (.type T)) (hs : PlainE a) (ha : EW S γ a P)
    (hr : ∀ v H0 F0 H F Q, AtH S H F → Ex2 S.tabs H0 F0 H F → P v H0 H F → (∀ w H' F', HF H' F' → Ex2 S.tabs H F H' F' → P' w H0 H' F' → Q w H') → r [v] H Q) (hn : x ≠ "__name__") (hdb : (x == ("__debug__" : Str)) = false) : EW S γ (.Call (.Name x p) [a] [] pos) P' := fun σ H F at_ Q q =>
  wE_of (fun X hX => pe_callTy (ho X hX) (hX.gl hg) (hX.mgn hm) hv (pa_cons (pe_w hX) pa_nil (hs [] X.env)) hn hdb (hs [] X.env) rfl) (ha σ H F at_ _ fun v H1 F1 a1 x1 p1 =>
    hr v H F H1 F1 Q a1.toAtH x1 p1 fun w H2 F2 hf x2 p2 => q w H2 F2 (a1.ex x2 hf) (x1.trans x2) p2)
theorem w_b2 {id : String} {x : Str} {r : List V → Hp → VK → Prop} {da db dc : PyData} (ho : ∀ X, IsCx S X → CallR X (.builtin id) r) (hg : IsGl S x) (hm : S.mg x = none) (hv : bootBuiltins x = some (.builtin id)) (hs : PlainE a) (hs2 : PlainE b) (ha : EJ S γ a da) (hb : EJ S γ b db)
    (hr : ∀ v u H F Q, AtH S H F → Dp S.K F v da → Dp S.K F u db → (∀ w, Dp S.K F w dc → Q w H) → r [v, u] H Q) (hn : x ≠ "__name__") (hdb : (x == ("__debug__" : Str)) = false) (hpl : ∀ X : Cx, (backTo pos (starEach [b] X.env)).any (·.1) = false) : EJ S γ (.Call (.Name x p) [a, b] [] pos) dc := fun σ H F at_ Q q =>
  wE_of (fun X hX => pe_callB (ho X hX) (hX.gl hg) (hX.mgn hm) hv (pa_cons (pe_w hX) (pa_cons (pe_w hX) pa_nil (hs2 [] X.env)) (hs [b] X.env)) hn hdb (hs [b] X.env) (hpl X)) (ha σ H F at_ _ fun v H1 F1 a1 x1 p1 => hb σ H1 F1 a1 _ fun u H2 F2 a2 x2 p2 =>
    hr v u H2 F2 Q a2.toAtH (p1.zmono x2.f) p2 fun w dw => q w H2 F2 a2 (x1.trans x2) dw)
theorem e_len {k : SK} (hg : IsGl S "len") (hm : S.mg "len" = none) (ha : QJ S γ a k ds) (hs : PlainE a) : EJ S γ (.Call (.Name "len" p) [a] [] pos) (.int ds.length) :=
  w_b1 (r := fun xs H Q => ∃ p ys, xs = [.ref p] ∧ (SqL S.K H p ys ∨ SqT S.K H p ys) ∧ Q (.int ys.length) H) (fun X hX => hX.K ▸ call_len_seq) hg hm PySem.boot_len hs ha (fun v H0 F0 H F Q at_ x ⟨q, vs, e1, h1, h2⟩ k2 => by
    subst e1
    refine ⟨q, vs, rfl, ?_, k2 _ H F at_.hf (Ex2.refl H F) (by rw [h2.zlen]; exact .int _)⟩
    cases k with
    | l => exact .inl h1
    | t => exact .inr h1) (by decide) (by decide)
theorem e_lenT {α : Type} {enc : α → PyData} {xs : List α} {k : SK} (hg : IsGl S "len") (hm : S.mg "len" = none) (ha : QJ S γ a k (xs.map enc)) (hs : PlainE a) : EJ S γ (.Call (.Name "len" p) [a] [] pos) (.int xs.length) := by
  have := e_len (p := p) (pos := pos) hg hm ha hs
  rw [List.length_map] at this; exact this
theorem e_abs {i : Int} (hg : IsGl S "abs") (hm : S.mg "abs" = none) (ha : EJ S γ a (.int i)) (hs : PlainE a) : EJ S γ (.Call (.Name "abs" p) [a] [] pos) (.int (i.natAbs : Int)) :=
  w_b1 (fun X hX => call_abs) hg hm boot_abs hs ha (fun v H0 F0 H F Q at_ x d1 k2 => by
    cases d1
    have e : (if i < 0 then -i else i) = (i.natAbs : Int) := by split <;> omega
    exact ⟨i, rfl, k2 _ H F at_.hf (Ex2.refl H F) (by rw [e]; exact .int _)⟩) (by decide) (by decide)
theorem e_int1 {i : Int} (hg : IsGl S "int") (hm : S.mg "int" = none) (ha : EJ S γ a (.int i)) (hs : PlainE a) : EJ S γ (.Call (.Name "int" p) [a] [] pos) (.int i) :=
  w_t1 (fun X hX => call_int1) hg hm boot_int hs ha (fun v H0 F0 H F Q at_ x d1 k2 => by
    cases d1
    exact .inl ⟨i, rfl, k2 _ H F at_.hf (Ex2.refl H F) (.int _)⟩) (by decide) (by decide)
theorem e_max2 {x y : Int} (hg : IsGl S "max") (hm : S.mg "max" = none) (ha : EJ S γ a (.int x)) (hb : EJ S γ b (.int y)) (hs : PlainE a) (hs2 : PlainE b) (hpl : ∀ X : Cx, (backTo pos (starEach [b] X.env)).any (·.1) = false) : EJ S γ (.Call (.Name "max" p) [a, b] [] pos) (.int (max x y)) :=
  w_b2 (fun X hX => call_max2 hX.calm) hg hm boot_max hs hs2 ha hb (fun v u H F Q at_ d1 d2 k => by
    cases d1; cases d2
    have e : (if y > x then y else x) = max x y := by split <;> omega
    exact ⟨x, y, rfl, k _ (by rw [e]; exact .int _)⟩) (by decide) (by decide) hpl
theorem e_min2 {x y : Int} (hg : IsGl S "min") (hm : S.mg "min" = none) (ha : EJ S γ a (.int x)) (hb : EJ S γ b (.int y)) (hs : PlainE a) (hs2 : PlainE b) (hpl : ∀ X : Cx, (backTo pos (starEach [b] X.env)).any (·.1) = false) : EJ S γ (.Call (.Name "min" p) [a, b] [] pos) (.int (min x y)) :=
  w_b2 (fun X hX => call_min2 hX.calm) hg hm boot_min hs hs2 ha hb (fun v u H F Q at_ d1 d2 k => by
    cases d1; cases d2
    have e : (if y < x then y else x) = min x y := by split <;> omega
    exact ⟨x, y, rfl, k _ (by rw [e]; exact .int _)⟩) (by decide) (by decide) hpl
theorem DpAll.ints {K : PySem.W.Frag} {F : Hp} : ∀ {ns : List Int} {vs : List V}, DpAll K F vs (ns.map .int) → vs = ns.map V.int
  | [], _, .nil => rfl
  | n :: ns, _, .cons h t => by cases h; rw [DpAll.ints t]; rfl
theorem DpAll.bools {K : PySem.W.Frag} {F : Hp} : ∀ {ns : List Bool} {vs : List V}, DpAll K F vs (ns.map .bool) → vs = ns.map V.bl
  | [], _, .nil => rfl
  | n :: ns, _, .cons h t => by cases h; rw [DpAll.bools t]; rfl
theorem e_sum {ns : List Int} (hg : IsGl S "sum") (hm : S.mg "sum" = none) (ha : QJ S γ a .l (ns.map .int)) (hs : PlainE a) : EJ S γ (.Call (.Name "sum" p) [a] [] pos) (.int ns.sum) :=
  w_b1 (r := rSum S.K) (fun X hX => hX.K ▸ cr_sum hX.calm) hg hm boot_sum hs ha (fun v H0 F0 H F Q at_ x ⟨q, vs, e1, h1, h2⟩ k2 => by
    subst e1
    obtain rfl := DpAll.ints h2
    exact ⟨q, ns, rfl, h1, k2 _ H F at_.hf (Ex2.refl H F) (.int _)⟩) (by decide) (by decide)
theorem e_maxL {ns : List Int} {m : Int} (hg : IsGl S "max") (hm : S.mg "max" = none) (ha : QJ S γ a .l (ns.map .int)) (he : ns.max? = some m) (hs : PlainE a) : EJ S γ (.Call (.Name "max" p) [a] [] pos) (.int m) :=
  w_b1 (r := rMax S.K) (fun X hX => hX.K ▸ cr_max hX.calm) hg hm boot_max hs ha (fun v H0 F0 H F Q at_ x ⟨q, vs, e1, h1, h2⟩ k2 => by
    subst e1
    obtain rfl := DpAll.ints h2
    obtain ⟨he1, he2⟩ := List.max?_eq_some_iff.mp he
    refine ⟨q, ns, rfl, h1, ?_, fun m' hm' hle => ?_⟩
    · cases ns with
      | nil => cases he
      | cons _ _ => exact Nat.succ_pos _
    · obtain rfl : m' = m := Int.le_antisymm (he2 m' hm') (hle m he1)
      exact k2 _ H F at_.hf (Ex2.refl H F) (.int _)) (by decide) (by decide)
theorem e_minL {ns : List Int} {m : Int} (hg : IsGl S "min") (hm : S.mg "min" = none) (ha : QJ S γ a .l (ns.map .int)) (he : ns.min? = some m) (hs : PlainE a) : EJ S γ (.Call (.Name "min" p) [a] [] pos) (.int m) :=
  w_b1 (r := rMin S.K) (fun X hX => hX.K ▸ cr_min hX.calm) hg hm boot_min hs ha (fun v H0 F0 H F Q at_ x ⟨q, vs, e1, h1, h2⟩ k2 => by
    subst e1
    obtain rfl := DpAll.ints h2
    obtain ⟨he1, he2⟩ := List.min?_eq_some_iff.mp he
    refine ⟨q, ns, rfl, h1, ?_, fun m' hm' hle => ?_⟩
    · cases ns with
      | nil => cases he
      | cons _ _ => exact Nat.succ_pos _
    · obtain rfl : m' = m := Int.le_antisymm (hle m he1) (he2 m' hm')
      exact k2 _ H F at_.hf (Ex2.refl H F) (.int _)) (by decide) (by decide)
theorem e_all {bs : List Bool} (hg : IsGl S "all") (hm : S.mg "all" = none) (ha : QJ S γ a .l (bs.map .bool)) (hs : PlainE a) : EJ S γ (.Call (.Name "all" p) [a] [] pos) (.bool (bs.all id)) :=
  w_b1 (r := rAll S.K) (fun X hX => hX.K ▸ cr_all hX.calm) hg hm boot_all hs ha (fun v H0 F0 H F Q at_ x ⟨q, vs, e1, h1, h2⟩ k2 => by
    subst e1
    obtain rfl := DpAll.bools h2
    exact ⟨q, bs, rfl, h1, k2 _ H F at_.hf (Ex2.refl H F) (.bl _)⟩) (by decide) (by decide)
theorem e_any {bs : List Bool} (hg : IsGl S "any") (hm : S.mg "any" = none) (ha : QJ S γ a .l (bs.map .bool)) (hs : PlainE a) : EJ S γ (.Call (.Name "any" p) [a] [] pos) (.bool (bs.any id)) :=
  w_b1 (r := rAny S.K) (fun X hX => hX.K ▸ cr_any hX.calm) hg hm boot_any hs ha (fun v H0 F0 H F Q at_ x ⟨q, vs, e1, h1, h2⟩ k2 => by
    subst e1
    obtain rfl := DpAll.bools h2
    exact ⟨q, bs, rfl, h1, k2 _ H F at_.hf (Ex2.refl H F) (.bl _)⟩) (by decide) (by decide)
/-- tuple(list), tuple(tuple) -/
theorem e_tuple {k : SK} (hg : IsGl S "tuple") (hm : S.mg "tuple" = none) (ha : QJ S γ a .l ds) (hs : PlainE a) : EJ S γ (.Call (.Name "tuple" p) [a] [] pos) (.tuple ds) :=
  w_t1 (r := fun xs H Q => ∃ p ys, xs = [.ref p] ∧ ((SqL S.K H p ys ∧ ∀ l, H l = none → Q (.ref l) (upd H l (.tup ys))) ∨ (SqT S.K H p ys ∧ Q (.ref p) H))) (fun X hX => hX.K ▸ call_tuple_of) hg hm boot_tuple hs ha (fun v H0 F0 H F Q at_ x ⟨q, vs, e1, h1, h2⟩ k2 => by
    subst e1
    refine ⟨q, vs, rfl, .inl ⟨h1, fun l hl => ?_⟩⟩
    have x4 : Ex2 S.tabs H F (upd H l (.tup vs)) (upd F l (.tup vs)) := ex_new at_.hf hl
    exact k2 _ _ _ (at_.hf.new hl fun _ z => by cases z) x4 (.tup (SqT.of upd_same) (h2.zmono x4.f))) (by decide) (by decide)
theorem e_tupleT (hg : IsGl S "tuple") (hm : S.mg "tuple" = none) (ha : EJ S γ a (.tuple ds)) (hs : PlainE a) : EJ S γ (.Call (.Name "tuple" p) [a] [] pos) (.tuple ds) :=
  w_t1 (r := fun xs H Q => ∃ p ys, xs = [.ref p] ∧ ((SqL S.K H p ys ∧ ∀ l, H l = none → Q (.ref l) (upd H l (.tup ys))) ∨ (SqT S.K H p ys ∧ Q (.ref p) H))) (fun X hX => hX.K ▸ call_tuple_of) hg hm boot_tuple hs ha (fun v H0 F0 H F Q at_ x d1 k2 => by
    cases d1 with
    | @tup q vs _ h1 h2 => exact ⟨q, vs, rfl, .inr ⟨at_.hf.le.sqT h1, k2 _ H F at_.hf (Ex2.refl H F) (.tup h1 h2)⟩⟩) (by decide) (by decide)
theorem f_list {k : SK} (hg : IsGl S "list") (hm : S.mg "list" = none) (ha : QJ S γ a k ds) (hs : PlainE a) : FJ S γ (.Call (.Name "list" p) [a] [] pos) ds :=
  w_t1 (r := fun xs H Q => ∃ p ys, xs = [.ref p] ∧ (SqL S.K H p ys ∨ SqT S.K H p ys) ∧ ∀ l, H l = none → Q (.ref l) (upd H l (.lst ys))) (fun X hX => hX.K ▸ call_list_of) hg hm boot_list hs ha (fun v H0 F0 H F Q at_ x ⟨q, vs, e1, h1, h2⟩ k2 => by
    subst e1
    refine ⟨q, vs, rfl, ?_, fun l hl => ?_⟩
    · cases k with
      | l => exact .inl h1
      | t => exact .inr h1
    · exact k2 _ _ _ (at_.hf.newH hl) (ex_newH hl) ⟨l, vs, rfl, x.h.back hl, at_.hf.fnone hl, upd_same, h2⟩) (by decide) (by decide)

/-! ### isinstance -/
def tyN : PyData → String
  | .none => "NoneType"
  | .bool _ => "bool"
  | .int _ => "int"
  | .str _ => "str"
  | .list _ => "list"
  | .tuple _ => "tuple"
  | .dict _ => "dict"
def isInst (T : String) (d : PyData) : Bool := tyN d == T || (T == "int" && tyN d == "bool")
theorem tyX_of {K : PySem.W.Frag} {H F : Hp} {v : V} {d : PyData} (hf : HF H F) (h : Dp K F v d) : TyX K H v (.type (tyN d)) := by
  cases h with
  | non => exact .base .non
  | bl b => exact .base (.bl b)
  | int i => exact .base (.int i)
  | str x => exact .base (.str x)
  | lst h1 h2 =>
    rcases h1 with (h | ⟨o, h⟩) | ⟨o, its, n, hk, hc, _⟩
    · exact .base (.lst (hf.sub _ _ h))
    · exact .base (.frz (hf.sub _ _ h))
    · exact .kList hk hc
  | tup h1 h2 =>
    rcases h1 with (h | ⟨o, h⟩) | ⟨o, its, n, hk, hc, _⟩
    · exact .base (.tup (hf.sub _ _ h))
    · exact .fTuple (hf.sub _ _ h)
    · exact .kTuple hk hc
theorem e_isi {T : String} {x : Str} {p2 : Pos} (hg : IsGl S "isinstance") (hm : S.mg "isinstance" = none) (hg2 : IsGl S x) (hm2 : S.mg x = none) (hv : bootBuiltins x = some (.type T)) (ha : EJ S γ a d) (hs : PlainE a) (hk : kitB (tyN d) T = some (isInst T d))
    (hpl : ∀ X : Cx, (backTo pos (starEach [.Name x p2] X.env)).any (·.1) = false) (hn : x ≠ "__name__") (hdb : (x == ("__debug__" : Str)) = false) : EJ S γ (.Call (.Name "isinstance" p) [a, .Name x p2] [] pos) (.bool (isInst T d)) := fun σ H F at_ Q q =>
  wE_of (t := tCB (rIsi S.K) (tCons (wE S a) (tCons (tC (.ty T)) tNil))) (fun X hX => hX.K ▸ pe_callB call_isi (hX.gl hg) (hX.mgn hm) (by decide +kernel) (pa_cons (pe_w hX) (pa_cons (pe_bltn (hX.gl hg2) (hX.mgn hm2) hv rfl hn hdb) pa_nil rfl) (hs _ X.env)) (by decide) (by decide) (hs _ X.env) (hpl X))
    (ha σ H F at_ _ fun v H1 F1 a1 x1 d1 => ⟨v, .ty T, _, _, _, rfl, .ty T, tyX_of a1.hf d1, kit_ty hk, q _ H1 F1 a1 x1 (.bl _)⟩)

/-! ### +, * of sequences -/
theorem add_lq {prog : Program} {w : World} {A : Around} {E : Value → Shared → Prop} {s : Shared} {l b : Addr} {vs ws : List Value} {Q : Value → Shared → Prop} (hl : s.heap.IsList l vs.toArray) (hb : s.heap.IsList b ws.toArray) (hz : vs.length + ws.length ≤ sizeLine)
    (h : Q (.ref s.heap.objs.size) { s with heap := s.heap.push { cls := .type "list", data := .seq (vs ++ ws).toArray } }) : wpAny (model prog w) A (binaryOp .Add (.ref l) (.ref b)) Q E s := by
  obtain ⟨⟨c1, d1, q1, l1⟩, e1, k1, n1, j1⟩ := hl
  obtain ⟨⟨c2, d2, q2, l2⟩, e2, k2, n2, j2⟩ := hb
  obtain rfl : c1 = _ := k1
  obtain rfl : q1 = _ := j1
  obtain rfl : c2 = _ := k2
  obtain rfl : q2 = _ := j2
  have ea : vs.toArray ++ ws.toArray = (vs ++ ws).toArray := by simp
  refine concat_meets ⟨_, e1, rfl⟩ ⟨_, e2, rfl⟩ noFill_list_add seq_list_add PySem.F.slot_list_add PySem.F.entry_list_add (PySem.F.args_list_add_2 _ _) (list_addW l b vs.toArray ws.toArray n1 n2 d1 d2 l1 l2 (by simpa using hz)) ⟨e1, e2, ?_⟩
  rw [ea]
  exact h
def rCatQ (K : PySem.W.Frag) : R2 := fun x y H Q => ∃ l b xs zs, x = .ref l ∧ y = .ref b ∧ SqL K H l xs ∧ SqL K H b zs ∧ xs.length + zs.length ≤ sizeLine ∧ ∀ p, H p = none → Q (.ref p) (upd H p (.lst (xs ++ zs)))
theorem op_catQ {X : Cx} : OpR X (binaryOp .Add) (rCatQ X.K) := by
  intro pins s σ H x y v u Q I rx ry h
  obtain ⟨l, b, xs, zs, rfl, rfl, hl, hb, hz, q⟩ := h
  cases rx; cases ry
  obtain ⟨i1, r1, p1, z1⟩ := I.list hl
  obtain ⟨i2, r2, p2, z2⟩ := I.list hb
  refine add_lq p1.isList p2.isList (by rw [← r1.length, ← r2.length]; exact hz) ?_
  exact ⟨.ref _, _, I.lnew (t' := s.toks) (r1.append r2) (by rw [List.length_append]; exact hz), rfl, q _ I.fresh⟩
theorem f_cat (ha : QJ S γ a .l ds) (hb : QJ S γ b .l es) (hz : ds.length + es.length ≤ sizeLine) : FJ S γ (.BinOp a .Add b pos) (ds ++ es) := fun σ H F at_ Q q =>
  wE_of (t := tOp (rCatQ S.K) (wE S a) (wE S b)) (fun X hX => hX.K ▸ pe_op op_catQ (pe_w hX) (pe_w hX)) (ha σ H F at_ _ fun v H1 F1 a1 x1 ⟨p1, vs, e1, h1, h2⟩ => hb σ H1 F1 a1 _ fun u H2 F2 a2 x2 ⟨p2, us, e2, k1, k2⟩ => by
    subst e1; subst e2
    refine ⟨p1, p2, vs, us, rfl, rfl, SqX.ext (k := .l) x2.h h1, k1, by rw [h2.zlen, k2.zlen]; exact hz, fun p hp => ?_⟩
    have x4 : Ex2 S.tabs H2 F2 (upd H2 p (.lst (vs ++ us))) F2 := ex_newH hp
    exact q _ _ _ (a2.ex x4 (a2.hf.newH hp)) ((x1.trans x2).trans x4) ⟨p, _, rfl, (x1.trans x2).h.back hp, a2.hf.fnone hp, upd_same, (h2.zmono x2.f).zapp k2⟩)
theorem f_catT {α : Type} {enc : α → PyData} {xs ys : List α} (ha : QJ S γ a .l (xs.map enc)) (hb : QJ S γ b .l (ys.map enc)) (hz : xs.length + ys.length ≤ sizeLine) : FJ S γ (.BinOp a .Add b pos) ((xs ++ ys).map enc) := by
  rw [List.map_append]; exact f_cat ha hb (by rw [List.length_map, List.length_map]; exact hz)
theorem e_cat (ha : EJ S γ a (.tuple ds)) (hb : EJ S γ b (.tuple es)) (hz : ds.length + es.length ≤ sizeLine) : EJ S γ (.BinOp a .Add b pos) (.tuple (ds ++ es)) :=
  e_bin (r := rCatA S.K) (fun X hX => hX.K ▸ op_catA) ha hb fun v u H F Q at_ d1 d2 q => by
    cases d1 with
    | @tup p1 vs _ h1 h2 =>
    cases d2 with
    | @tup p2 us _ k1 k2 =>
    refine ⟨p1, p2, vs, us, rfl, rfl, at_.hf.le.sqT h1, at_.hf.le.sqT k1, by rw [h2.zlen, k2.zlen]; exact hz, fun e => ?_, fun _ e => ?_, fun _ _ p hp => ?_⟩
    · subst e
      cases h2
      exact q _ H F at_.hf (Ex2.refl H F) (.tup k1 k2)
    · subst e
      cases k2
      rw [List.append_nil] at q
      exact q _ H F at_.hf (Ex2.refl H F) (.tup h1 h2)
    · have x4 : Ex2 S.tabs H F (upd H p (.tup (vs ++ us))) (upd F p (.tup (vs ++ us))) := ex_new at_.hf hp
      exact q _ _ _ (at_.hf.new hp fun _ z => by cases z) x4 (.tup (SqT.of upd_same) ((h2.zapp k2).zmono x4.f))
theorem e_catTT {α : Type} {enc : α → PyData} {xs ys : List α} (ha : EJ S γ a (.tuple (xs.map enc))) (hb : EJ S γ b (.tuple (ys.map enc))) (hz : xs.length + ys.length ≤ sizeLine) : EJ S γ (.BinOp a .Add b pos) (.tuple ((xs ++ ys).map enc)) := by
  rw [List.map_append]; exact e_cat ha hb (by rw [List.length_map, List.length_map]; exact hz)
theorem flat1 {α : Type} (x : α) : ∀ n : Nat, (List.replicate n [x]).flatten = List.replicate n x
  | 0 => rfl
  | n + 1 => by rw [List.replicate_succ, List.replicate_succ, List.flatten_cons, flat1 x n]; rfl
theorem DpAll.rep {K : PySem.W.Frag} {F : Hp} {v : V} (h : Dp K F v d) : ∀ n : Nat, DpAll K F (List.replicate n v) (List.replicate n d)
  | 0 => .nil
  | n + 1 => .cons h (DpAll.rep h n)
/-- [x] * n -/
theorem f_rep {i : Int} (ha : FJ S γ a [d]) (hb : EJ S γ b (.int i)) (hz : i ≤ 16777216) (hz0 : -16777216 ≤ i) : FJ S γ (.BinOp a .Mult b pos) (List.replicate i.toNat d) := fun σ H F at_ Q q =>
  wE_of (fun X hX => pe_op op_rep (pe_w hX) (pe_w hX)) (ha σ H F at_ _ fun v H1 F1 a1 x1 ⟨p1, vs, e1, _, _, h1, h2⟩ => hb σ H1 F1 a1 _ fun u H2 F2 a2 x2 d2 => by
    subst e1
    cases d2
    cases h2 with
    | @cons v0 _ _ _ hv hn =>
    cases hn
    refine ⟨p1, i, [v0], rfl, rfl, x2.h.keep _ _ h1 (fun _ z => by cases z), by omega, by omega, ?_, fun p hp => ?_⟩
    · rw [sizeLine_eq]; show 1 * i.toNat ≤ 16777216; omega
    · rw [flat1]
      have x4 : Ex2 S.tabs H2 F2 (upd H2 p (.lst (List.replicate i.toNat v0))) F2 := ex_newH hp
      exact q _ _ _ (a2.ex x4 (a2.hf.newH hp)) ((x1.trans x2).trans x4) ⟨p, _, rfl, (x1.trans x2).h.back hp, a2.hf.fnone hp, upd_same, DpAll.rep (hv.zmono x2.f) _⟩)

/-! ### in, not in -/
theorem inV_ints (i : Int) : ∀ ns : List Int, inV (.int i) (ns.map V.int) = decide (i ∈ ns)
  | [] => rfl
  | n :: ns => by
    have ih := inV_ints i ns
    show (eqV (.int n) (.int i) || inV (.int i) (ns.map V.int)) = _
    rw [ih]
    have : eqV (.int n) (.int i) = decide (i = n) := by
      show (n == i) = _
      rw [Bool.eq_iff_iff, beq_iff_eq, decide_eq_true_iff]
      exact eq_comm
    rw [this, Bool.eq_iff_iff, Bool.or_eq_true, decide_eq_true_iff, decide_eq_true_iff, decide_eq_true_iff, List.mem_cons]
theorem flat_ints : ∀ ns : List Int, (ns.map V.int).all flatV = true
  | [] => rfl
  | n :: ns => by show (true && (ns.map V.int).all flatV) = true; rw [flat_ints ns]; rfl
theorem c_inI {i : Int} {ns : List Int} {k : SK} (ha : EJ S γ a (.int i)) (hb : QJ S γ b k (ns.map .int)) : CJ S γ .In a b (decide (i ∈ ns)) :=
  ⟨rIn S.K false, fun X hX => hX.K ▸ op_in_seq, fun σ H F at_ Q q => ha σ H F at_ _ fun v H1 F1 a1 x1 d1 => hb σ H1 F1 a1 _ fun u H2 F2 a2 x2 ⟨p, us, e1, h1, h2⟩ => by
    subst e1; cases d1
    obtain rfl := DpAll.ints h2
    refine ⟨p, _, rfl, ?_, rfl, flat_ints ns, ?_⟩
    · cases k with
      | l => exact .inl h1
      | t => exact .inr h1
    · show Q (.bl (inV (.int i) (ns.map V.int))) H2
      rw [inV_ints]; exact q H2 F2 a2 (x1.trans x2)⟩
theorem c_notInI {i : Int} {ns : List Int} {k : SK} (ha : EJ S γ a (.int i)) (hb : QJ S γ b k (ns.map .int)) : CJ S γ .NotIn a b (!decide (i ∈ ns)) :=
  ⟨rIn S.K true, fun X hX => hX.K ▸ op_notIn_seq, fun σ H F at_ Q q => ha σ H F at_ _ fun v H1 F1 a1 x1 d1 => hb σ H1 F1 a1 _ fun u H2 F2 a2 x2 ⟨p, us, e1, h1, h2⟩ => by
    subst e1; cases d1
    obtain rfl := DpAll.ints h2
    refine ⟨p, _, rfl, ?_, rfl, flat_ints ns, ?_⟩
    · cases k with
      | l => exact .inl h1
      | t => exact .inr h1
    · show Q (.bl (!inV (.int i) (ns.map V.int))) H2
      rw [inV_ints]; exact q H2 F2 a2 (x1.trans x2)⟩
end
end SM

set_option autoImplicit false
set_option Elab.async false
set_option linter.all false
set_option maxRecDepth 100000
set_option maxHeartbeats 4000000
namespace SM
open PySem PySem.Spec PyProof.Rows L2

/-! ### slots stored -/
section
variable {S : Stat} {γ : Gm} {σ : L2.St} {H F : Hp} {i : Nat} {d : PyData} {v : V}
theorem get_set_ne {α : Type} {l : List α} {i j : Nat} {x : α} (h : j ≠ i) : (l.set i x)[j]? = l[j]? := List.getElem?_set_ne (Ne.symm h)
theorem set_cases {l : Gm} {j : Nat} {x y : Sl} (h : (l.set i x)[j]? = some y) : (j = i ∧ y = x ∧ i < l.length) ∨ (j ≠ i ∧ l[j]? = some y) := by
  by_cases e : j = i
  · subst e
    by_cases hl : j < l.length
    · rw [List.getElem?_set_self hl] at h
      exact .inl ⟨rfl, (Option.some.inj h).symm, hl⟩
    · rw [List.getElem?_eq_none (by rw [List.length_set]; omega)] at h; cases h
  · rw [get_set_ne e] at h; exact .inr ⟨e, h⟩
theorem At.setSh (h : At S γ σ H F) (hv : Dp S.K F v d) : At S (γ.set i (.sh d)) (σ.set i (some v)) H F where
  toAtH := h.toAtH
  len := by rw [List.length_set, List.length_set]; exact h.len
  lk := fun j n kvs hj => by
    rcases set_cases hj with ⟨rfl, e1, hl⟩ | ⟨hne, hj⟩
    · cases e1
    · rw [get_set_ne hne]; exact h.lk j n kvs hj
  sh := fun j e hj => by
    rcases set_cases hj with ⟨rfl, e1, hl⟩ | ⟨hne, hj⟩
    · cases e1
      exact ⟨v, List.getElem?_set_self (by rw [h.len]; exact hl), hv⟩
    · rw [get_set_ne hne]; exact h.sh j e hj
  ow := fun j e hj => by
    rcases set_cases hj with ⟨rfl, e1, hl⟩ | ⟨hne, hj⟩
    · cases e1
    · rw [get_set_ne hne]; exact h.ow j e hj
  apart := fun j k e f a hj hk h1 h2 => by
    rcases set_cases hj with ⟨rfl, e1, hl⟩ | ⟨hne, hj⟩
    · cases e1
    · rcases set_cases hk with ⟨rfl, e1, hl⟩ | ⟨hne2, hk⟩
      · cases e1
      · rw [get_set_ne hne] at h1; rw [get_set_ne hne2] at h2; exact h.apart j k e f a hj hk h1 h2
theorem At.setUn {x : Option V} (h : At S γ σ H F) : At S (γ.set i .un) (σ.set i x) H F where
  toAtH := h.toAtH
  len := by rw [List.length_set, List.length_set]; exact h.len
  lk := fun j n kvs hj => by
    rcases set_cases hj with ⟨rfl, e1, hl⟩ | ⟨hne, hj⟩
    · cases e1
    · rw [get_set_ne hne]; exact h.lk j n kvs hj
  sh := fun j e hj => by
    rcases set_cases hj with ⟨rfl, e1, hl⟩ | ⟨hne, hj⟩
    · cases e1
    · rw [get_set_ne hne]; exact h.sh j e hj
  ow := fun j e hj => by
    rcases set_cases hj with ⟨rfl, e1, hl⟩ | ⟨hne, hj⟩
    · cases e1
    · rw [get_set_ne hne]; exact h.ow j e hj
  apart := fun j k e f a hj hk h1 h2 => by
    rcases set_cases hj with ⟨rfl, e1, hl⟩ | ⟨hne, hj⟩
    · cases e1
    · rcases set_cases hk with ⟨rfl, e1, hl⟩ | ⟨hne2, hk⟩
      · cases e1
      · rw [get_set_ne hne] at h1; rw [get_set_ne hne2] at h2; exact h.apart j k e f a hj hk h1 h2
/-- a is held by no slot -/
def Loose (γ : Gm) (σ : L2.St) (a : Addr) : Prop := ∀ (j : Nat) (e : PyData), γ[j]? = some (.ow e) → σ[j]? ≠ some (some (.ref a))
theorem At.setOw {a : Addr} (h : At S γ σ H F) (ho : Own S H F a d) (hl : Loose γ σ a) : At S (γ.set i (.ow d)) (σ.set i (some (.ref a))) H F where
  toAtH := h.toAtH
  len := by rw [List.length_set, List.length_set]; exact h.len
  lk := fun j n kvs hj => by
    rcases set_cases hj with ⟨rfl, e1, hl⟩ | ⟨hne, hj⟩
    · cases e1
    · rw [get_set_ne hne]; exact h.lk j n kvs hj
  sh := fun j e hj => by
    rcases set_cases hj with ⟨rfl, e1, hl⟩ | ⟨hne, hj⟩
    · cases e1
    · rw [get_set_ne hne]; exact h.sh j e hj
  ow := fun j e hj => by
    rcases set_cases hj with ⟨rfl, e1, hl⟩ | ⟨hne, hj⟩
    · cases e1
      exact ⟨a, List.getElem?_set_self (by rw [h.len]; exact hl), ho⟩
    · rw [get_set_ne hne]; exact h.ow j e hj
  apart := fun j k e f b hj hk h1 h2 => by
    rcases set_cases hj with ⟨rfl, e1, hl1⟩ | ⟨hne, hj⟩
    · rcases set_cases hk with ⟨rfl, e2, hl2⟩ | ⟨hne2, hk⟩
      · rfl
      · rw [List.getElem?_set_self (by rw [h.len]; exact hl1)] at h1
        rw [get_set_ne hne2] at h2
        cases h1
        exact absurd h2 (hl k f hk)
    · rename_i hj0
      rcases set_cases hk with ⟨rfl, e2, hl2⟩ | ⟨hne2, hk⟩
      · rw [List.getElem?_set_self (by rw [h.len]; exact hl2)] at h2
        rw [get_set_ne hne] at h1
        cases h2
        exact absurd h1 (hl j e (by assumption))
      · rw [get_set_ne hne] at h1; rw [get_set_ne hne2] at h2; exact h.apart j k e f b hj hk h1 h2
theorem Loose.new {a : Addr} (h : At S γ σ H F) (hn : H a = none) : Loose γ σ a := fun j e hj z => by
  obtain ⟨b, h1, h2⟩ := h.ow j e hj
  rw [h1] at z
  cases z
  obtain ⟨o, ho, _⟩ := h2.there
  rw [hn] at ho; cases ho
/-- what no slot holds is changed -/
theorem At.mut {a : Addr} {o : HO} (h : At S γ σ H F) (hl : Loose γ σ a) (hF : F a = none) (hB : S.B a = none) (ht : ∀ ps, H a ≠ some (.tbl ps)) (hc : NotCode H a) : At S γ σ (upd H a o) F where
  ext := h.ext.mut hB hc ht
  hf := ⟨fun b u e => by rw [upd_ne (fun z => by rw [z, hF] at e; cases e)]; exact h.hf.sub b u e, h.hf.ntb⟩
  f0 := h.f0
  new := h.new
  tabs := ⟨fun P hP => by
    obtain ⟨ps, h1, h2⟩ := h.tabs.1 P hP
    exact ⟨ps, by rw [upd_ne (fun z => by rw [z] at h1; exact ht ps h1)]; exact h1, h2⟩, h.tabs.2.upd hc ht⟩
  len := h.len
  lk := h.lk
  sh := h.sh
  ow := fun j e hj => by
    obtain ⟨b, h1, h2⟩ := h.ow j e hj
    refine ⟨b, h1, h2.keep (fun u hu => ?_) (Le.refl F) h2.fnone⟩
    rw [upd_ne (fun z => hl j e hj (by rw [h1, z]))]; exact hu
  apart := h.apart
/-- weaker slots -/
def GLe : Gm → Gm → Prop
  | [], [] => True
  | _ :: r, .un :: r' => GLe r r'
  | x :: r, y :: r' => x = y ∧ GLe r r'
  | _, _ => False
theorem GLe.len : ∀ {γ γ' : Gm}, GLe γ γ' → γ.length = γ'.length
  | [], [], _ => rfl
  | _ :: r, .un :: r', h => congrArg (· + 1) (GLe.len (γ := r) (γ' := r') h)
  | _ :: r, .sh _ :: r', h => congrArg (· + 1) (GLe.len (γ := r) (γ' := r') h.2)
  | _ :: r, .ow _ :: r', h => congrArg (· + 1) (GLe.len (γ := r) (γ' := r') h.2)
  | _ :: r, .lk _ _ :: r', h => congrArg (· + 1) (GLe.len (γ := r) (γ' := r') h.2)
  | [], _ :: _, h => h.elim
  | _ :: _, [], h => h.elim
theorem GLe.get : ∀ {γ γ' : Gm}, GLe γ γ' → ∀ {j : Nat} {y : Sl}, γ'[j]? = some y → y = .un ∨ γ[j]? = some y
  | [], [], _, _, _, e => by simp at e
  | x :: r, .un :: r', h, 0, y, e => .inl (by simpa using e.symm)
  | x :: r, .un :: r', h, j + 1, y, e => by
    have := GLe.get (γ := r) (γ' := r') h (j := j) (y := y) (by simpa using e)
    simpa using this
  | x :: r, .sh _ :: r', h, 0, y, e => .inr (by rw [h.1]; simpa using e)
  | x :: r, .ow _ :: r', h, 0, y, e => .inr (by rw [h.1]; simpa using e)
  | x :: r, .lk _ _ :: r', h, 0, y, e => .inr (by rw [h.1]; simpa using e)
  | x :: r, .sh _ :: r', h, j + 1, y, e => by
    have := GLe.get (γ := r) (γ' := r') h.2 (j := j) (y := y) (by simpa using e)
    simpa using this
  | x :: r, .ow _ :: r', h, j + 1, y, e => by
    have := GLe.get (γ := r) (γ' := r') h.2 (j := j) (y := y) (by simpa using e)
    simpa using this
  | x :: r, .lk _ _ :: r', h, j + 1, y, e => by
    have := GLe.get (γ := r) (γ' := r') h.2 (j := j) (y := y) (by simpa using e)
    simpa using this
  | [], _ :: _, h, _, _, _ => h.elim
  | _ :: _, [], h, _, _, _ => h.elim
theorem At.weak {γ' : Gm} (h : At S γ σ H F) (w : GLe γ γ') : At S γ' σ H F where
  toAtH := h.toAtH
  len := h.len.trans w.len
  lk := fun j n kvs hj => by
    rcases w.get hj with z | z
    · cases z
    · exact h.lk j n kvs z
  sh := fun j e hj => by
    rcases w.get hj with z | z
    · cases z
    · exact h.sh j e z
  ow := fun j e hj => by
    rcases w.get hj with z | z
    · cases z
    · exact h.ow j e z
  apart := fun j k e f a hj hk h1 h2 => by
    rcases w.get hj with z | z
    · cases z
    · rcases w.get hk with y | y
      · cases y
      · exact h.apart j k e f a z y h1 h2
end

/-! ### sizes -/
def Sz (S : Stat) (H : Hp) : Prop := ∀ (a : Addr) (xs : List V) (k : SK), SqX S.K H a xs k → xs.length ≤ sizeLine
theorem EW.sz {S : Stat} {γ : Gm} {e : Expr} {P : V → Hp → Hp → Hp → Prop} (h : EW S γ e P) : EW S γ e (fun v H H' F' => P v H H' F' ∧ Sz S H') := fun σ H F at_ Q q X hX pins s I => by
  refine thn (h σ H F at_ (fun v H' => Sz S H' → Q v H') (fun v H' F' a1 x1 p1 sz => q v H' F' a1 x1 ⟨p1, sz⟩) X hX pins s I) fun u s' ⟨v, H', I', r, k⟩ => ⟨v, H', I', r, k fun a xs kd hq => ?_⟩
  cases kd with
  | l =>
    have hq' : SqL X.K H' a xs := hX.K ▸ hq
    obtain ⟨_, _, _, z⟩ := I'.list hq'
    exact z
  | t =>
    have hq' : SqT X.K H' a xs := hX.K ▸ hq
    obtain ⟨_, _, _, z⟩ := I'.tuple hq'
    exact z

/-! ### targets -/
/-- a target takes d: the slots behind it; is: the slots that it stores -/
def GJ (S : Stat) (γ : Gm) (tg : Expr) (d : PyData) (γ' : Gm) (is : List Nat) : Prop :=
  ∀ σ H F v, At S γ σ H F → Dp S.K F v d → ∀ Q : L2.St → Hp → Prop, (∀ σ', At S γ' σ' H F → σ'.length = σ.length → (∀ j, j ∉ is → σ'[j]? = σ[j]?) → Q σ' H) → wG S tg v σ H Q
def GsJ (S : Stat) (γ : Gm) (ts : List Expr) (ds : List PyData) (γ' : Gm) (is : List Nat) : Prop :=
  ∀ σ H F vs, At S γ σ H F → DpAll S.K F vs ds → ∀ Q : L2.St → Hp → Prop, (∀ σ', At S γ' σ' H F → σ'.length = σ.length → (∀ j, j ∉ is → σ'[j]? = σ[j]?) → Q σ' H) →
    ∀ X, IsCx S X → ∀ pins s us, Inv X pins σ H s → Vals vs us → wpAny (model X.prog X.w) X.A (assignInOrder ((assignEach ts X.env).map (·.2)) us) (fun _ s' => ∃ σ' H', Inv X pins σ' H' s' ∧ Q σ' H') X.xe s
section
variable {S : Stat} {γ γ' γ2 : Gm} {d : PyData} {ds : List PyData} {pos : Pos} {is js : List Nat} {tg : Expr} {ts : List Expr}
/-- a name that may be stored: its place i -/
structure NmOk (S : Stat) (x : Str) (i : Nat) : Prop where
  nd : S.N.Nodup
  at_ : S.N[i]? = some x
  loc : Loc S.sc x
  fn : S.fn x = true ∨ S.sc.names.lookup x = some .local
theorem IsCx.loc {X : Cx} {x : Str} (hX : IsCx S X) (h : Loc S.sc x) : Loc X.env.scope x := by rw [hX.sc]; exact h
theorem IsCx.fnl {X : Cx} {x : Str} (hX : IsCx S X) (h : S.fn x = true ∨ S.sc.names.lookup x = some .local) : X.fn x = true ∨ X.env.scope.names.lookup x = some .local := by rw [hX.fn, hX.sc]; exact h
theorem g_name {x : Str} {i : Nat} (n : NmOk S x i) : GJ S γ (.Name x pos) d (γ.set i (.sh d)) [i] := fun σ H F v at_ dv Q q =>
  wG_of (fun X hX => pg_name (i := i) (by rw [hX.N]; exact n.nd) (by rw [hX.N]; exact n.at_) (hX.loc n.loc) (hX.fnl n.fn)) (q _ (at_.setSh dv) (List.length_set ..) fun j hj => get_set_ne (by simpa using hj))
theorem gs_nil : GsJ S γ [] [] γ [] := fun σ H F vs at_ dv Q q X hX pins s us I r => by
  cases dv
  cases r
  exact assignInOrder_nil ⟨σ, H, I, q σ at_ rfl fun _ _ => rfl⟩
def PlainT (e : Expr) : Prop := ∀ (es : List Expr) (env : PySem.Env), (assignEach (e :: es) env).map (·.2) = assign e env :: (assignEach es env).map (·.2)
theorem gs_cons (h1 : GJ S γ tg d γ' is) (h2 : GsJ S γ' ts ds γ2 js) (hs : PlainT tg) : GsJ S γ (tg :: ts) (d :: ds) γ2 (is ++ js) := fun σ H F vs at_ dv Q q X hX pins s us I r => by
  cases dv with
  | cons d1 d2 =>
  cases r with
  | cons r1 r2 =>
  rw [hs]
  refine assignInOrder_cons (thn (h1 σ H F _ at_ d1 (fun σ1 H1 => H1 = H ∧ At S γ' σ1 H F ∧ σ1.length = σ.length ∧ ∀ j, j ∉ is → σ1[j]? = σ[j]?) (fun σ1 a1 l1 n1 => ⟨rfl, a1, l1, n1⟩) X hX pins s _ I r1) fun _ s1 ⟨σ1, H1, I1, e1, a1, l1, n1⟩ => ?_)
  subst e1
  exact h2 σ1 H1 F _ a1 d2 Q (fun σ2 a2 l2 n2 => q σ2 a2 (l2.trans l1) fun j hj => (n2 j fun z => hj (List.mem_append_right _ z)).trans (n1 j fun z => hj (List.mem_append_left _ z))) X hX pins s1 _ I1 r2
theorem g_tup {k : Nat} (h : GsJ S γ ts ds γ' is) (hn : ∀ X : Cx, (assignEach ts X.env).length = ds.length) (hst : ∀ X : Cx, (assignEach ts X.env).findIdx? (·.1) = none) : GJ S γ (.Tuple ts k pos) (.tuple ds) γ' is := fun σ H F v at_ dv Q q X hX pins s u I r => by
  cases dv with
  | @tup a vs _ h1 h2 =>
  have g : PGs X ts (fun xs σ1 H1 Q1 => xs = vs ∧ σ1 = σ ∧ H1 = H ∧ ∀ σ', At S γ' σ' H F → σ'.length = σ.length → (∀ j, j ∉ is → σ'[j]? = σ[j]?) → Q1 σ' H) :=
    ⟨fun pins s σ1 H1 xs us Q1 I1 r1 ⟨e1, e2, e3, k⟩ => by subst e1; subst e2; subst e3; exact h σ1 H1 F _ at_ h2 Q1 k X hX pins s us I1 r1⟩
  refine (pg_tup (X := X) (k := k) (pos := pos) (n := ds.length) hX.calm g (hn X) (hst X)).run pins s σ H _ u Q I r ⟨a, vs, rfl, ?_, h2.zlen, rfl, rfl, rfl, q⟩
  rw [hX.K]; exact at_.hf.le.sqT h1
end

/-! ### what is walked -/
def YD (K : PySem.W.Frag) (F : Hp) (items : List PyData) : Nat → Hp → V → Hp → Prop := fun i H x H' =>
  ∃ d, items[i]? = some d ∧ ((H' = H ∧ Dp K F x d) ∨ ∃ T xs ds, H T = none ∧ H' = upd H T (.tup xs) ∧ x = .ref T ∧ d = .tuple ds ∧ DpAll K F xs ds)
def IW (G : Hp → Hp → Hp → Prop) (S : Stat) (γ : Gm) (tg iter : Expr) (items : List PyData) : Prop :=
  ∀ σ H F, At S γ σ H F → ∀ R : It → Hp → Prop, (∀ J H1 F1, At S γ σ H1 F1 → Ex2 S.tabs H F H1 F1 → items.length ≤ sizeLine → Walk J items.length (G H1 F1) (YD S.K F1 items) → R J H1) → wI S tg iter σ H R
/-- it may be walked whatever the turns change -/
abbrev IF : Stat → Gm → Expr → Expr → List PyData → Prop := IW fun _ F1 H => Le F1 H
/-- it may be walked as long as nothing changes -/
abbrev IX (S : Stat) : Gm → Expr → Expr → List PyData → Prop := IW (fun H1 _ H => Ext S.tabs H1 H) S
section
variable {S : Stat} {γ : Gm} {tg iter a b : Expr} {d : PyData} {ds es items : List PyData} {pos p : Pos}
theorem HF.ext {t : Tbs} {H F H' : Hp} (h : HF H F) (e : Ext t H H') : Le F H' := fun a o q => e.keep a o (h.sub a o q) fun ps z => h.ntb a ps (z ▸ q)
theorem IW.x (h : IF S γ tg iter items) : IX S γ tg iter items := fun σ H F at_ R q => h σ H F at_ R fun J H1 F1 a1 x1 z w => q J H1 F1 a1 x1 z (w.mono (fun H' e => a1.hf.ext e) fun _ _ _ _ _ _ y => y)
theorem yd_at {K : PySem.W.Frag} {F : Hp} {vs : List V} (h : DpAll K F vs ds) : ∀ i H x H', i < ds.length → YAt vs i H x H' → YD K F ds i H x H' := fun i H x H' _ ⟨e, hx⟩ => by
  obtain ⟨d, h1, h2⟩ := h.zget' hx
  exact ⟨d, h1, .inl ⟨e, h2⟩⟩
theorem i_list (h : EJ S γ iter (.list ds)) : IF S γ tg iter ds := fun σ H F at_ R q =>
  wI_of (t := iList S.K (wE S iter)) (fun X hX => hX.K ▸ pi_list (pe_w hX)) (h.sz σ H F at_ _ fun v H1 F1 a1 x1 ⟨dv, sz⟩ => by
    cases dv with
    | @lst p vs _ h1 h2 =>
    refine ⟨p, rfl, ⟨vs, a1.hf.le.sqL h1⟩, q _ H1 F1 a1 x1 (h2.zlen ▸ sz p vs .l (a1.hf.le.sqL h1)) ?_⟩
    rw [← h2.zlen]
    exact walk_list.mono (fun H' e => e.sqL h1) (by rw [h2.zlen]; exact fun i H x H' hi _ y => yd_at h2 i H x H' hi y))
theorem i_tup (h : EJ S γ iter (.tuple ds)) : IF S γ tg iter ds := fun σ H F at_ R q =>
  wI_of (t := iTup S.K (wE S iter)) (fun X hX => hX.K ▸ pi_tup (pe_w hX)) (h.sz σ H F at_ _ fun v H1 F1 a1 x1 ⟨dv, sz⟩ => by
    cases dv with
    | @tup p vs _ h1 h2 =>
    refine ⟨p, rfl, ⟨vs, a1.hf.le.sqT h1⟩, q _ H1 F1 a1 x1 (h2.zlen ▸ sz p vs .t (a1.hf.le.sqT h1)) ?_⟩
    rw [← h2.zlen]
    exact walk_tup.mono (fun H' e => e.sqT h1) (by rw [h2.zlen]; exact fun i H x H' hi _ y => yd_at h2 i H x H' hi y))
theorem i_own (h : QJ S γ iter .l ds) : IX S γ tg iter ds := fun σ H F at_ R q =>
  wI_of (t := iList S.K (wE S iter)) (fun X hX => hX.K ▸ pi_list (pe_w hX)) (h.sz σ H F at_ _ fun v H1 F1 a1 x1 ⟨⟨p, vs, e1, h1, h2⟩, sz⟩ => by
    subst e1
    refine ⟨p, rfl, ⟨vs, h1⟩, q _ H1 F1 a1 x1 (h2.zlen ▸ sz p vs .l h1) ?_⟩
    rw [← h2.zlen]
    exact walk_list.mono (fun H' e => SqX.ext (k := .l) e h1) (by rw [h2.zlen]; exact fun i H x H' hi _ y => yd_at h2 i H x H' hi y))
/-- lo, .. below hi -/
def rng (lo hi : Int) : List Int := (List.range (hi - lo).toNat).map fun (k : Nat) => lo + (k : Int)
theorem rng_len (lo hi : Int) : (rng lo hi).length = (hi - lo).toNat := by unfold rng; rw [List.length_map, List.length_range]
theorem rng_get (lo hi : Int) {i : Nat} (h : i < (hi - lo).toNat) : (rng lo hi)[i]? = some (lo + i) := by
  unfold rng
  rw [List.getElem?_map, List.getElem?_range h]; rfl
def RgB (lo hi : Int) : Prop := -8388608 ≤ lo ∧ lo ≤ 8388608 ∧ -8388608 ≤ hi ∧ hi ≤ 8388608
instance (lo hi : Int) : Decidable (RgB lo hi) := by unfold RgB; infer_instance
theorem rng_walk {S : Stat} {F : Hp} {lo hi : Int} : Walk (Itr lo (hi - lo).toNat) ((rng lo hi).map PyData.int).length (fun _ => True) (YD S.K F ((rng lo hi).map PyData.int)) := by
  rw [List.length_map, rng_len]
  refine walk_range.mono (fun _ _ => trivial) fun i H x H' hi _ ⟨e1, e2⟩ => ⟨.int (lo + i), ?_, .inl ⟨e1, ?_⟩⟩
  · rw [List.getElem?_map, rng_get _ _ hi]; rfl
  · rw [e2]; exact .int _
theorem rng_sz {lo hi : Int} (h : (hi - lo).toNat ≤ 16777216) : ((rng lo hi).map PyData.int).length ≤ sizeLine := by
  rw [List.length_map, rng_len, sizeLine_eq]; exact h
theorem i_range1 {y : Int} (hg : IsGl S "range") (hm : S.mg "range" = none) (ha : EJ S γ a (.int y)) (hs : PlainE a) (hb : RgB 0 y) : IF S γ tg (.Call (.Name "range" p) [a] [] pos) ((rng 0 y).map .int) := fun σ H F at_ R q =>
  wI_of (fun X hX => pi_range1 (hX.gl hg) (hX.mgn hm) (pa_cons (pe_w hX) pa_nil (hs [] X.env)) (hs [] X.env)) (ha σ H F at_ _ fun v H1 F1 a1 x1 d1 => by
    cases d1
    obtain ⟨b1, b2, b3, b4⟩ := hb
    refine ⟨y, rfl, by omega, by omega, q _ H1 F1 a1 x1 (rng_sz (by omega)) ?_⟩
    have e : y.toNat = (y - 0).toNat := by omega
    rw [e]
    exact rng_walk.mono (fun _ _ => trivial) fun _ _ _ _ _ _ y => y)
theorem i_range2 {x y : Int} (hg : IsGl S "range") (hm : S.mg "range" = none) (ha : EJ S γ a (.int x)) (hb : EJ S γ b (.int y)) (hs : PlainE a) (hs2 : PlainE b) (hr : RgB x y) : IF S γ tg (.Call (.Name "range" p) [a, b] [] pos) ((rng x y).map .int) := fun σ H F at_ R q =>
  wI_of (fun X hX => pi_range2 (hX.gl hg) (hX.mgn hm) (pa_cons (pe_w hX) (pa_cons (pe_w hX) pa_nil (hs2 [] X.env)) (hs [b] X.env)) ((hs [b] X.env).trans (congrArg _ (hs2 [] X.env))) (hs2 [] X.env)) (ha σ H F at_ _ fun v H1 F1 a1 x1 d1 => hb σ H1 F1 a1 _ fun u H2 F2 a2 x2 d2 => by
    cases d1; cases d2
    obtain ⟨b1, b2, b3, b4⟩ := hr
    refine ⟨x, y, rfl, ⟨by omega, by omega, by omega, by omega⟩, q _ H2 F2 a2 (x1.trans x2) (rng_sz (by omega)) ?_⟩
    exact rng_walk.mono (fun _ _ => trivial) fun _ _ _ _ _ _ y => y)
end
end SM

set_option autoImplicit false
set_option Elab.async false
set_option linter.all false
set_option maxRecDepth 100000
set_option maxHeartbeats 4000000
namespace SM
open PySem PySem.Spec PyProof.Rows L2

/-! ### list comprehensions -/
def Stat.blk (S : Stat) (scope : Scope) : Stat := { S with sc := relS scope S.sc, fn := fun x => scope.names.lookup x == some .cell }
theorem IsCx.blk {S : Stat} {X : Cx} (hX : IsCx S X) (s : Shared) (H : Hp) (scope : Scope) (cl : List (Str × Addr)) (C : Addr) (fp : List Addr) : IsCx (S.blk scope) (X.blk s H scope (compEnvC scope cl C X.env) fp) where
  prog := hX.prog
  w := hX.w
  K := hX.K
  mg := hX.mg
  base := hX.base
  N := hX.N
  sc := by
    show relS scope X.env.scope = relS scope S.sc
    rw [hX.sc]
  fn := rfl
  room := hX.room
  calm := hX.calm
  code := hX.code
  xe := rfl
  qual := hX.qual
def wipeG (γ : Gm) : List Nat → Gm
  | [] => γ
  | v :: vs => (wipeG γ vs).set v .un
section
variable {S : Stat} {γ : Gm} {σ : L2.St} {H F : Hp}
theorem AtH.blk (scope : Scope) (h : AtH S H F) : AtH (S.blk scope) H F := ⟨h.ext, h.hf, h.f0, h.new, h.tabs⟩
theorem Own.blk (scope : Scope) {a : Addr} {d : PyData} (h : Own S H F a d) : Own (S.blk scope) H F a d := by
  cases d <;> exact h
theorem Own.unblk (scope : Scope) {a : Addr} {d : PyData} (h : Own (S.blk scope) H F a d) : Own S H F a d := by
  cases d <;> exact h
theorem At.blk (scope : Scope) (h : At S γ σ H F) : At (S.blk scope) γ σ H F where
  toAtH := h.toAtH.blk scope
  len := h.len
  lk := h.lk
  sh := h.sh
  ow := fun i d e => by
    obtain ⟨a, h1, h2⟩ := h.ow i d e
    exact ⟨a, h1, h2.blk scope⟩
  apart := h.apart
theorem At.wipe (h : At S γ σ H F) : ∀ vs : List Nat, At S (wipeG γ vs) (wipe σ vs) H F
  | [] => h
  | v :: vs => (At.wipe h vs).setUn
theorem wipe_get (σ : L2.St) : ∀ (vs : List Nat) (j : Nat), (wipe σ vs)[j]? = if j ∈ vs then (if j < σ.length then some none else none) else σ[j]?
  | [], j => by simp [wipe]
  | v :: vs, j => by
    have ih := wipe_get σ vs j
    unfold wipe
    by_cases e : j = v
    · subst e
      rw [if_pos List.mem_cons_self]
      by_cases hl : j < σ.length
      · rw [if_pos hl, List.getElem?_set_self (by rw [wipe_length]; exact hl)]
      · rw [if_neg hl, List.getElem?_eq_none (by rw [List.length_set, wipe_length]; omega)]
    · rw [get_set_ne e, ih]
      by_cases hm : j ∈ vs
      · rw [if_pos hm, if_pos (List.mem_cons_of_mem _ hm)]
      · rw [if_neg hm, if_neg (fun z => by rcases List.mem_cons.mp z with z | z; exact e z; exact hm z)]
theorem wipe_ext {σ1 σ2 : L2.St} {vs is : List Nat} (hl : σ1.length = (wipe σ2 vs).length) (h : ∀ j, j ∉ is → σ1[j]? = (wipe σ2 vs)[j]?) (hs : ∀ i ∈ is, i ∈ vs) : wipe σ1 vs = wipe σ2 vs := by
  apply List.ext_getElem?
  intro j
  rw [wipe_length] at hl
  rw [wipe_get, wipe_get]
  by_cases hm : j ∈ vs
  · rw [if_pos hm, if_pos hm, hl]
  · rw [if_neg hm, if_neg hm, h j fun z => hm (hs j z), wipe_get, if_neg hm]
end
/-- tests behind a for -/
def wTs (S : Stat) (ifs : List Expr) : TT := fun σ H Q => ∀ X, IsCx S X → ∃ t : TT, PTs X ifs t ∧ t σ H Q
def TsJ (S : Stat) (γ : Gm) (ifs : List Expr) (k : Bool) : Prop :=
  (ifs = [] ∧ k = true) ∨ ∃ c, ifs = [c] ∧ TJ S γ c k
/-- what a turn of a comprehension gives for the item d -/
def CB (S : Stat) (γ : Gm) (tg : Expr) (ifs : List Expr) (elt : Expr) (vs : List Nat) (d : PyData) (o : Option PyData) : Prop :=
  ∃ γ2 is k, GJ S γ tg d γ2 is ∧ (∀ i ∈ is, i ∈ vs) ∧ TsJ S γ2 ifs k ∧ (k = false → o = none) ∧ (k = true → ∃ d', o = some d' ∧ EJ S γ2 elt d')
def tTs (S : Stat) : List Expr → TT
  | [] => tYes
  | [c] => wT S c
  | _ => fun _ _ _ => False
section
variable {S : Stat} {γ : Gm} {tg iter elt : Expr} {ifs : List Expr} {scope : Scope} {own : List (Str × Nat)} {pos : Pos} {items : List PyData} {outs : List (Option PyData)} {vs : List Nat}
theorem pts_w {X : Cx} (hX : IsCx S X) (hl : ifs.length ≤ 1) : PTs X ifs (tTs S ifs) := by
  match ifs, hl with
  | [], _ => exact pts_nil
  | [c], _ => exact pts_one (pt_w hX)
theorem lc_read (hi : IX S γ tg iter items) (hb : ∀ (i : Nat) (d : PyData), items[i]? = some d → ∃ o, outs[i]? = some o ∧ CB (S.blk scope) (wipeG γ vs) tg ifs elt vs d o) (hl : outs.length = items.length) {σ : L2.St} {H F : Hp} (at_ : At S γ σ H F) {Q : VK}
    (q : ∀ v H' F', At S γ σ H' F' → Ex2 S.tabs H F H' F' → (∃ a us, v = .ref a ∧ H a = none ∧ F' a = none ∧ H' a = some (.lst us) ∧ DpAll S.K F' us (outs.filterMap id)) → Q v H') :
    tLc (wI S tg iter) (wG (S.blk scope) tg) (tTs (S.blk scope) ifs) (wE (S.blk scope) elt) vs σ H Q := by
  refine hi σ H F at_ _ fun J H1 F1 a1 x1 hz w D hD => ?_
  refine lc_it (n := items.length) (G := Ext S.tabs H1) w (Pv := fun i H2 => ∃ F2 us, At S γ σ H2 F2 ∧ Loose γ σ D ∧ F2 D = none ∧ S.B D = none ∧ H2 D = some (.lst us) ∧ DpAll S.K F2 us ((outs.take i).filterMap id) ∧ us.length ≤ i ∧ Ex2 S.tabs H1 F1 H2 F2) ?_ ?_ ?_ ?_
  · refine ⟨F1, [], a1.ex (ex_newH hD) (a1.hf.newH hD), Loose.new a1 hD, a1.hf.fnone hD, a1.ext.back hD, upd_same, ?_, Nat.le_refl _, ex_newH hD⟩
    rw [List.take_zero]; exact .nil
  · rintro i H2 _ ⟨F2, us, _, _, _, _, _, _, _, x2⟩
    exact x2.h
  · rintro i x H2 H3 hi ⟨F2, us, a2, lo, fD, bD, hD2, du, hu, x2⟩ ⟨d, hd, hy⟩
    obtain ⟨o, ho, γ2, is, k, g, hsub, ts, kf, kt⟩ := hb i d hd
    -- the item's heap
    obtain ⟨F3, a3, x3, dx⟩ : ∃ F3, At S γ σ H3 F3 ∧ Ex2 S.tabs H2 F2 H3 F3 ∧ Dp S.K F3 x d := by
      rcases hy with ⟨e1, dx⟩ | ⟨T, xs, ds, hT, e1, e2, e3, dx⟩
      · subst e1
        exact ⟨F2, a2, Ex2.refl _ _, dx.zmono x2.f⟩
      · subst e1; subst e2; subst e3
        have x4 : Ex2 S.tabs H2 F2 (upd H2 T (.tup xs)) (upd F2 T (.tup xs)) := ex_new a2.hf hT
        exact ⟨_, a2.ex x4 (a2.hf.new hT fun _ z => by cases z), x4, .tup (SqT.of upd_same) (dx.zmono (x2.trans x4).f)⟩
    have keepD : ∀ {H4 F4 : Hp}, Ex2 S.tabs H3 F3 H4 F4 → H4 D = some (.lst us) := fun {H4 F4} x4 => (x3.trans x4).h.keep D _ hD2 fun _ z => by cases z
    have fD4 : ∀ {H4 F4 : Hp}, Ex2 S.tabs H3 F3 H4 F4 → F4 D = none := fun {H4 F4} x4 => by
      cases z : F4 D with
      | none => rfl
      | some u => have := (x3.trans x4).n D u z fD; rw [hD2] at this; cases this
    have tk : (outs.take (i + 1)).filterMap id = (outs.take i).filterMap id ++ o.toList := by
      rw [List.take_add_one, ho, List.filterMap_append]
      cases o <;> rfl
    refine g _ H3 F3 x ((a3.wipe vs).blk scope) dx _ fun σ2 b2 l2 n2 => ⟨wipe_ext l2 n2 hsub, ?_⟩
    have fin : ∀ {k' : Bool}, k' = k → ∀ {H4 F4 : Hp}, At (S.blk scope) γ2 σ2 H4 F4 → Ex2 S.tabs H3 F3 H4 F4 → if k' = true then wE (S.blk scope) elt σ2 H4 fun y H5 => ∃ acc, H5 D = some (.lst acc) ∧ acc.length < sizeLine ∧ (∃ F2 us, At S γ σ (upd H5 D (.lst (acc ++ [y]))) F2 ∧ Loose γ σ D ∧ F2 D = none ∧ S.B D = none ∧ (upd H5 D (.lst (acc ++ [y]))) D = some (.lst us) ∧ DpAll S.K F2 us ((outs.take (i + 1)).filterMap id) ∧ us.length ≤ i + 1 ∧ Ex2 S.tabs H1 F1 (upd H5 D (.lst (acc ++ [y]))) F2)
        else (∃ F2 us, At S γ σ H4 F2 ∧ Loose γ σ D ∧ F2 D = none ∧ S.B D = none ∧ H4 D = some (.lst us) ∧ DpAll S.K F2 us ((outs.take (i + 1)).filterMap id) ∧ us.length ≤ i + 1 ∧ Ex2 S.tabs H1 F1 H4 F2) := by
      intro k' ek H4 F4 b4 x4
      subst ek
      cases k' with
      | true =>
        rw [if_pos rfl]
        obtain ⟨d', eo, ed⟩ := kt rfl
        refine ed σ2 H4 F4 b4 _ fun y H5 F5 b5 x5 dy => ⟨us, keepD (x4.trans x5), Nat.lt_of_le_of_lt hu (Nat.lt_of_lt_of_le hi hz), F5, us ++ [y], ?_, lo, fD4 (x4.trans x5), bD, upd_same, ?_, ?_, ?_⟩
        · refine (a3.ex (x4.trans x5) b5.hf).mut lo (fD4 (x4.trans x5)) bD (fun ps z => ?_) (NotCode.lst (keepD (x4.trans x5)))
          rw [keepD (x4.trans x5)] at z; cases z
        · rw [tk, eo]
          exact (du.zmono ((x3.trans x4).trans x5).f).zapp (.cons dy .nil)
        · rw [List.length_append]; exact Nat.succ_le_succ hu
        · have x6 := ((x2.trans x3).trans x4).trans x5
          exact ⟨x6.h.mut hD (NotCode.lst (keepD (x4.trans x5))) (fun ps z => by rw [keepD (x4.trans x5)] at z; cases z), x6.f, x6.n⟩
      | false =>
        rw [if_neg Bool.false_ne_true]
        refine ⟨F4, us, a3.ex x4 b4.hf, lo, fD4 x4, bD, keepD x4, ?_, Nat.le_succ_of_le hu, (x2.trans x3).trans x4⟩
        rw [tk, kf rfl]
        show DpAll S.K F4 us (_ ++ [])
        rw [List.append_nil]
        exact du.zmono (x3.trans x4).f
    rcases ts with ⟨e1, e2⟩ | ⟨c, e1, tc⟩
    · subst e1
      exact fin e2.symm b2 (Ex2.refl _ _)
    · subst e1
      exact tc σ2 H3 F3 b2 _ fun H4 F4 b4 x4 => fin rfl b4 x4
  · rintro H2 ⟨F2, us, a2, lo, fD, bD, hD2, du, hu, x2⟩
    rw [← hl, List.take_length] at du
    exact q _ H2 F2 a2 (x1.trans x2) ⟨D, us, rfl, x1.h.back hD, fD, hD2, du⟩
/-- [elt for tg in iter if ..] -/
theorem f_lc0 (hi : IX S γ tg iter items) (hb : ∀ (i : Nat) (d : PyData), items[i]? = some d → ∃ o, outs[i]? = some o ∧ CB (S.blk scope) (wipeG γ (own.map (·.2))) tg ifs elt (own.map (·.2)) d o) (hl : outs.length = items.length)
    (hN : S.N.Nodup) (ok : blkC S.N S.sc scope own = true) (h1 : ifs.length ≤ 1) (hs : ∀ (X : Cx) x, foldedSetIterable iter X.env x = pure x) : FJ S γ (.ListComp elt [⟨tg, iter, ifs, 0⟩] scope pos) (outs.filterMap id) := fun σ H F at_ Q q =>
  wE_of (fun X hX => pe_lc hX.calm (by rw [hX.N]; exact hN) (pi_w hX) (by rw [hX.N, hX.sc]; exact blkOk_by ok) (fun s H C cl fp => pg_w (hX.blk s H scope cl C fp)) (fun s H C cl fp => pts_w (hX.blk s H scope cl C fp) h1) (fun s H C cl fp => pe_w (hX.blk s H scope cl C fp)) (hs X))
    (lc_read hi hb hl at_ q)

/-! typed -/
variable {α β : Type} {enc : α → PyData} {encB : β → PyData} {xs : List α} {ys : List β}
def compM (f : α → Option (Option β)) : List α → Option (List β)
  | [] => some []
  | x :: xs => (f x).bind fun o => (compM f xs).bind fun ys => some (match o with | some y => y :: ys | none => ys)
theorem compM_get {f : α → Option (Option β)} : ∀ {xs : List α} {ys : List β}, compM f xs = some ys → ∃ rs : List (Option β), rs.length = xs.length ∧ (∀ (i : Nat) (x : α), xs[i]? = some x → ∃ r, rs[i]? = some r ∧ f x = some r) ∧ ys = rs.filterMap id
  | [], ys, h => ⟨[], rfl, fun i x e => by simp at e, (Option.some.inj h).symm⟩
  | x :: xs, ys, h => by
    unfold compM at h
    obtain ⟨o, h1, h⟩ := Option.bind_eq_some_iff.mp h
    obtain ⟨zs, h2, h⟩ := Option.bind_eq_some_iff.mp h
    obtain ⟨rs, l, g, e⟩ := compM_get h2
    refine ⟨o :: rs, by rw [List.length_cons, List.length_cons, l], fun i y hy => ?_, ?_⟩
    · cases i with
      | zero => exact ⟨o, rfl, by rw [show y = x from (Option.some.inj hy).symm]; exact h1⟩
      | succ i => exact g i y hy
    · rw [← Option.some.inj h]
      cases o with
      | none => show zs = rs.filterMap id; exact e
      | some y => show y :: zs = y :: rs.filterMap id; rw [e]
/-- what a turn gives for one item, where its value is there -/
def CBO (S : Stat) (γ : Gm) (tg : Expr) (ifs : List Expr) (elt : Expr) (vs : List Nat) (d : PyData) (encB : β → PyData) (o : Option (Option β)) : Prop := ∀ r, o = some r → CB S γ tg ifs elt vs d (r.map encB)
theorem fm_map (encB : β → PyData) : ∀ rs : List (Option β), (rs.map fun r => r.map encB).filterMap id = (rs.filterMap id).map encB
  | [] => rfl
  | none :: rs => fm_map encB rs
  | some y :: rs => congrArg (encB y :: ·) (fm_map encB rs)
theorem f_lc {f : α → Option (Option β)} (hi : IX S γ tg iter (xs.map enc)) (hb : ∀ x ∈ xs, CBO (S.blk scope) (wipeG γ (own.map (·.2))) tg ifs elt (own.map (·.2)) (enc x) encB (f x)) (hr : compM f xs = some ys)
    (hN : S.N.Nodup) (ok : blkC S.N S.sc scope own = true) (h1 : ifs.length ≤ 1) (hs : ∀ (X : Cx) x, foldedSetIterable iter X.env x = pure x) : FJ S γ (.ListComp elt [⟨tg, iter, ifs, 0⟩] scope pos) (ys.map encB) := by
  obtain ⟨rs, l, g, e⟩ := compM_get hr
  have := f_lc0 (outs := rs.map fun r => r.map encB) (pos := pos) hi (fun i d hd => by
    rw [List.getElem?_map] at hd
    cases hx : xs[i]? with
    | none => rw [hx] at hd; cases hd
    | some x =>
      rw [hx] at hd
      obtain rfl : enc x = d := Option.some.inj hd
      obtain ⟨r, h2, h3⟩ := g i x hx
      exact ⟨r.map encB, by rw [List.getElem?_map, h2]; rfl, hb x (List.mem_of_getElem? hx) r h3⟩) (by rw [List.length_map, List.length_map, l]) hN ok h1 hs
  rw [fm_map, ← e] at this
  exact this
theorem compM_tot {p : α → Bool} {g : α → β} : ∀ xs : List α, compM (fun x => some (if p x = true then some (g x) else none)) xs = some ((xs.filter p).map g)
  | [] => rfl
  | x :: xs => by
    unfold compM
    rw [compM_tot xs]
    cases h : p x with
    | true => rw [List.filter_cons_of_pos h]; rfl
    | false => rw [List.filter_cons_of_neg (by rw [h]; exact Bool.false_ne_true)]; rfl
theorem compM_map {g : α → β} : ∀ xs : List α, compM (fun x => some (some (g x))) xs = some (xs.map g)
  | [] => rfl
  | x :: xs => by unfold compM; rw [compM_map xs]; rfl
end
/-! a turn, by its parts -/
section
variable {S : Stat} {γ γ2 : Gm} {tg elt c : Expr} {vs is : List Nat} {d : PyData} {β τ : Type} {encB : β → PyData}
theorem EJ.of {e : Expr} {d d' : PyData} (h : EJ S γ e d) (e1 : d = d') : EJ S γ e d' := e1 ▸ h
/-- the value where it is there -/
def EO (S : Stat) (γ : Gm) (e : Expr) (enc : β → PyData) (o : Option β) : Prop := ∀ x, o = some x → EJ S γ e (enc x)
theorem eo_some {e : Expr} {x : β} (h : EJ S γ e (encB x)) : EO S γ e encB (some x) := fun y hy => by cases hy; exact h
theorem eo_bind {e : Expr} {o : Option τ} {f : τ → Option β} (h : ∀ t, o = some t → EO S γ e encB (f t)) : EO S γ e encB (o.bind f) := fun x hx => by
  obtain ⟨t, h1, h2⟩ := Option.bind_eq_some_iff.mp hx
  exact h t h1 x h2
theorem EO.elim {e : Expr} {o : Option β} {x : β} (h : EO S γ e encB o) (hx : o = some x) : EJ S γ e (encB x) := h x hx
theorem eo_if {a b : Expr} {pos : Pos} {k : Bool} {oa ob : Option β} (hc : TJ S γ c k) (ha : k = true → EO S γ a encB oa) (hb : k = false → EO S γ b encB ob) : EO S γ (.IfExp c a b pos) encB (if k = true then oa else ob) := fun x hx => by
  cases k with
  | true =>
    have := e_if (enc := encB) (x := x) (y := x) (pos := pos) hc (fun _ => ha rfl x (by simpa using hx)) (fun z => by cases z) (b := b)
    rw [if_pos rfl] at this; exact this
  | false =>
    have := e_if (enc := encB) (x := x) (y := x) (pos := pos) hc (fun z => by cases z) (fun _ => hb rfl x (by simpa using hx)) (a := a)
    rw [if_neg Bool.false_ne_true] at this; exact this
theorem cb0 {o : Option β} (g : GJ S γ tg d γ2 is) (hs : ∀ i ∈ is, i ∈ vs) (h : EO S γ2 elt encB o) : CBO S γ tg [] elt vs d encB (o.bind fun y => some (some y)) := fun r hr => by
  obtain ⟨y, h1, h2⟩ := Option.bind_eq_some_iff.mp hr
  cases h2
  exact ⟨γ2, is, true, g, hs, .inl ⟨rfl, rfl⟩, (fun z => by cases z), fun _ => ⟨_, rfl, h y h1⟩⟩
theorem cb0T {y : β} (g : GJ S γ tg d γ2 is) (hs : ∀ i ∈ is, i ∈ vs) (h : EJ S γ2 elt (encB y)) : CBO S γ tg [] elt vs d encB (some (some y)) := fun r hr => by
  cases hr
  exact ⟨γ2, is, true, g, hs, .inl ⟨rfl, rfl⟩, (fun z => by cases z), fun _ => ⟨_, rfl, h⟩⟩
theorem cb_bind {ifs : List Expr} {o : Option τ} {f : τ → Option (Option β)} (h : ∀ t, o = some t → CBO S γ tg ifs elt vs d encB (f t)) : CBO S γ tg ifs elt vs d encB (o.bind f) := fun r hr => by
  obtain ⟨t, h1, h2⟩ := Option.bind_eq_some_iff.mp hr
  exact h t h1 r h2
theorem cb1 {o : Option β} {k : Bool} (g : GJ S γ tg d γ2 is) (hs : ∀ i ∈ is, i ∈ vs) (hc : TJ S γ2 c k) (h : k = true → EO S γ2 elt encB o) : CBO S γ tg [c] elt vs d encB (if k = true then o.bind fun y => some (some y) else some none) := fun r hr => by
  cases k with
  | true =>
    rw [if_pos rfl] at hr
    obtain ⟨y, h1, h2⟩ := Option.bind_eq_some_iff.mp hr
    cases h2
    exact ⟨γ2, is, true, g, hs, .inr ⟨c, rfl, hc⟩, (fun z => by cases z), fun _ => ⟨_, rfl, h rfl y h1⟩⟩
  | false =>
    rw [if_neg Bool.false_ne_true] at hr
    cases hr
    exact ⟨γ2, is, false, g, hs, .inr ⟨c, rfl, hc⟩, fun _ => rfl, (fun z => by cases z)⟩
theorem cb1T {y : β} {k : Bool} (g : GJ S γ tg d γ2 is) (hs : ∀ i ∈ is, i ∈ vs) (hc : TJ S γ2 c k) (h : k = true → EJ S γ2 elt (encB y)) : CBO S γ tg [c] elt vs d encB (some (if k = true then some y else none)) := fun r hr => by
  cases hr
  cases k with
  | true => exact ⟨γ2, is, true, g, hs, .inr ⟨c, rfl, hc⟩, (fun z => by cases z), fun _ => ⟨_, rfl, h rfl⟩⟩
  | false => exact ⟨γ2, is, false, g, hs, .inr ⟨c, rfl, hc⟩, fun _ => rfl, (fun z => by cases z)⟩
end
end SM

set_option autoImplicit false
set_option Elab.async false
set_option linter.all false
set_option maxRecDepth 100000
set_option maxHeartbeats 4000000
namespace SM
open PySem PySem.Spec PyProof.Rows L2

/-! ### statements -/
structure Post where
  nx : Gm → Prop
  rt : PyData → Prop
def SJ (S : Stat) (γ : Gm) (ss : List Stmt) (p : Post) : Prop :=
  ∀ σ H F, At S γ σ H F → ∀ D : Ends, (∀ γ' σ' H' F', p.nx γ' → At S γ' σ' H' F' → Le F F' → D.nx σ' H') → (∀ d v H' F', p.rt d → AtH S H' F' → Le F F' → Dp S.K F' v d → D.rt v H') → wS S ss D σ H
def SJ1 (S : Stat) (γ : Gm) (st : Stmt) (p : Post) : Prop :=
  ∀ σ H F, At S γ σ H F → ∀ D : Ends, (∀ γ' σ' H' F', p.nx γ' → At S γ' σ' H' F' → Le F F' → D.nx σ' H') → (∀ d v H' F', p.rt d → AtH S H' F' → Le F F' → Dp S.K F' v d → D.rt v H') → wS1 S st D σ H
section
variable {S : Stat} {γ γ' : Gm} {st : Stmt} {ss rest : List Stmt} {p : Post} {e a b c tg iter : Expr} {d : PyData} {ds : List PyData} {pos px : Pos}
theorem s_nil (h : p.nx γ) : SJ S γ [] p := fun σ H F at_ D k1 k2 => wS_of (fun X hX => pss_nil) (k1 γ σ H F h at_ (Le.refl F))
theorem s_cons {N : Gm → Prop} (h1 : SJ1 S γ st ⟨N, p.rt⟩) (h2 : ∀ γ', N γ' → SJ S γ' rest p) : SJ S γ (st :: rest) p := fun σ H F at_ D k1 k2 =>
  wS_of (fun X hX => pss_cons (ps_w hX) (pss_w hX)) (h1 σ H F at_ _ (fun γ' σ' H' F' hn a1 l1 => h2 γ' hn σ' H' F' a1 D (fun γ2 σ2 H2 F2 hn2 a2 l2 => k1 γ2 σ2 H2 F2 hn2 a2 (l1.trans l2)) fun d v H2 F2 hr a2 l2 dv => k2 d v H2 F2 hr a2 (l1.trans l2) dv) k2)
theorem s_weak {γ2 : Gm} (w : GLe γ γ2) (h : SJ S γ2 ss p) : SJ S γ ss p := fun σ H F at_ => h σ H F (at_.weak w)
/-- x = e -/
theorem s1_set {x : Str} {i : Nat} (n : NmOk S x i) (h : EJ S γ e d) (hs : ∀ X, IsCx S X → swapsWith e (some (.Name x px)) pos.line X.env = pure false) (hp : p.nx (γ.set i (.sh d))) : SJ1 S γ (.Assign [.Name x px] e pos) p := fun σ H F at_ D k1 k2 =>
  wS1_of (fun X hX => ps_set (i := i) (by rw [hX.N]; exact n.nd) (by rw [hX.N]; exact n.at_) (hX.loc n.loc) (pe_w hX) (hs X hX) (hX.fnl n.fn)) (h σ H F at_ _ fun v H1 F1 a1 x1 dv => k1 _ _ H1 F1 hp (a1.setSh dv) x1.f)
theorem s1_setF {x : Str} {i : Nat} (n : NmOk S x i) (h : FJ S γ e ds) (hs : ∀ X, IsCx S X → swapsWith e (some (.Name x px)) pos.line X.env = pure false) (hp : p.nx (γ.set i (.ow (.list ds)))) : SJ1 S γ (.Assign [.Name x px] e pos) p := fun σ H F at_ D k1 k2 =>
  wS1_of (fun X hX => ps_set (i := i) (by rw [hX.N]; exact n.nd) (by rw [hX.N]; exact n.at_) (hX.loc n.loc) (pe_w hX) (hs X hX) (hX.fnl n.fn)) (h σ H F at_ _ fun v H1 F1 a1 x1 ⟨a, vs, e1, h1, h2, h3, h4⟩ => by
    subst e1
    exact k1 _ _ H1 F1 hp (a1.setOw ⟨at_.ext.back h1, h2, vs, h3, h4⟩ fun j e hj z => Loose.new at_ h1 j e hj z) x1.f)
theorem sw_no {elt : Expr} {gs : List Comprehension} {scope : Scope} {y : Str} {l : Nat} {pl : Pos} {X : Cx} (hX : IsCx S X) (h : S.sc.names.lookup y ≠ some .local) : swapsWith (.ListComp elt gs scope pl) (some (.Name y px)) l X.env = pure false := by
  have hk : (X.env.kindOf y == some NameKind.local) = false := by
    show (X.env.scope.names.lookup y == some NameKind.local) = false
    rw [hX.sc]
    exact beq_eq_false_iff_ne.mpr h
  unfold swapsWith
  simp only [hk, Bool.and_false, Bool.false_and]
  try rfl
/-- x = [..] where the new list is kept on the machine -/
theorem s1_setLc {x : Str} {i : Nat} {elt : Expr} {ifs : List Expr} {scope : Scope} {own : List (Str × Nat)} {pl : Pos} {items : List PyData} {outs : List (Option PyData)} (n : NmOk S x i) (hy : S.sc.names.lookup x = some .local)
    (hi : IX S γ tg iter items) (hb : ∀ (i : Nat) (d : PyData), items[i]? = some d → ∃ o, outs[i]? = some o ∧ CB (S.blk scope) (wipeG γ (own.map (·.2))) tg ifs elt (own.map (·.2)) d o) (hl : outs.length = items.length)
    (ok : blkC S.N S.sc scope own = true) (h1 : ifs.length ≤ 1) (hs : ∀ (X : Cx) x, foldedSetIterable iter X.env x = pure x) (hli : (px.line == pl.line) = true) (hk : S.sc.kind = .function)
    (hsn : (scope.names.any fun (n, k) => n == x && (k == .local || k == .cell)) = false) (hp : p.nx (γ.set i (.ow (.list (outs.filterMap id))))) : SJ1 S γ (.Assign [.Name x px] (.ListComp elt [⟨tg, iter, ifs, 0⟩] scope pl) pos) p := fun σ H F at_ D k1 k2 =>
  wS1_of (fun X hX => ps_setLc (i := i) hX.calm (by rw [hX.N]; exact n.nd) (by rw [hX.N]; exact n.at_) (by rw [hX.sc]; exact hy) (sw_true (by rw [hX.sc]; exact hk) (by rw [hX.sc]; exact hy) hli hsn) (pi_w hX) (by rw [hX.N, hX.sc]; exact blkOk_by ok)
    (fun s H C cl fp => pg_w (hX.blk s H scope cl C fp)) (fun s H C cl fp => pts_w (hX.blk s H scope cl C fp) h1) (fun s H C cl fp => pe_w (hX.blk s H scope cl C fp)) (hs X))
    (lc_read hi hb hl at_ fun v H1 F1 a1 x1 ⟨a, us, e1, h1, h2, h3, h4⟩ => by
      subst e1
      exact k1 _ _ H1 F1 hp (a1.setOw ⟨at_.ext.back h1, h2, us, h3, h4⟩ fun j e hj z => Loose.new at_ h1 j e hj z) x1.f)
/-- any target -/
theorem s1_asg {is : List Nat} (h : EJ S γ e d) (g : GJ S γ tg d γ' is) (hs : ∀ X : Cx, swapsWithSole [tg] e pos.line X.env = pure false) (hw : ∀ X : Cx, swappedStores [tg] e X.env = pure none) (h1 : ∀ X : Cx, (assignEach [tg] X.env).map (·.2) = [assign tg X.env]) (hp : p.nx γ') : SJ1 S γ (.Assign [tg] e pos) p := fun σ H F at_ D k1 k2 =>
  wS1_of (fun X hX => ps_asg (pe_w hX) (pg_w hX) (hs X) (hw X) (h1 X)) (h σ H F at_ _ fun v H1 F1 a1 x1 dv => g σ H1 F1 v a1 dv _ fun σ' a2 _ _ => k1 _ σ' H1 F1 hp a2 x1.f)
/-- x = y, y an owned thing that goes over -/
theorem s1_mv {x y : Str} {i j : Nat} {py : Pos} (n : NmOk S x i) (hN : S.N[j]? = some y) (hv : Vis S.sc y) (hg : γ[j]? = some (.ow d)) (hd : (y == ("__debug__" : Str)) = false) (hcd : (y == ("__classdict__" : Str)) = false)
    (hp : p.nx ((γ.set j .un).set i (.ow d))) : SJ1 S γ (.Assign [.Name x px] (.Name y py) pos) p := fun σ H F at_ D k1 k2 => by
  obtain ⟨a, h1, h2⟩ := at_.ow j d hg
  refine wS1_of (fun X hX => ps_set (i := i) (by rw [hX.N]; exact n.nd) (by rw [hX.N]; exact n.at_) (hX.loc n.loc) (pe_var (i := j) (by rw [hX.N]; exact hN) (by rw [hX.sc]; exact hv) hd hcd) rfl (hX.fnl n.fn)) ⟨.ref a, h1, ?_⟩
  have a2 : At S (γ.set j .un) σ H F := by
    have := at_.setUn (i := j) (x := some (.ref a))
    have e : σ.set j (some (.ref a)) = σ := by
      apply List.ext_getElem?
      intro k
      by_cases hk : k = j
      · subst hk
        obtain ⟨hl, _⟩ := List.getElem?_eq_some_iff.mp h1
        rw [List.getElem?_set_self hl, h1]
      · rw [get_set_ne hk]
    rw [e] at this; exact this
  refine k1 _ _ H F hp (a2.setOw h2 fun k e hk z => ?_) (Le.refl F)
  rcases set_cases hk with ⟨_, e1, _⟩ | ⟨hne, hk⟩
  · cases e1
  · exact hne (at_.apart k j e d a hk hg z h1)
/-- an owned list is shared from now on -/
theorem At.share {σ : L2.St} {H F : Hp} {j : Nat} (h : At S γ σ H F) (hg : γ[j]? = some (.ow (.list ds))) : ∃ F', At S (γ.set j (.sh (.list ds))) σ H F' ∧ Le F F' := by
  obtain ⟨a, h1, hB, hF, vs, h2, h3⟩ := h.ow j _ hg
  have lo : ∀ (k : Nat) (e : PyData), (γ.set j .un)[k]? = some (.ow e) → σ[k]? ≠ some (some (.ref a)) := fun k e hk z => by
    rcases set_cases hk with ⟨_, e1, _⟩ | ⟨hne, hk⟩
    · cases e1
    · exact hne (h.apart k j e _ a hk hg z h1)
  have hf : HF H (upd F a (.lst vs)) := h.hf.share h2 fun _ z => by cases z
  have le : Le F (upd F a (.lst vs)) := Le.new hF
  refine ⟨upd F a (.lst vs), ⟨⟨h.ext, hf, h.f0.trans le, fun b o e n => ?_, h.tabs⟩, by rw [List.length_set]; exact h.len, fun k e hk => ?_, fun k e hk => ?_, fun k l e f b hk hl x y => ?_, fun k n kvs hk => ?_⟩, le⟩
  · by_cases hb : b = a
    · subst hb; exact hB
    · rw [upd_ne hb] at e; exact h.new b o e n
  · rcases set_cases hk with ⟨rfl, e1, _⟩ | ⟨hne, hk⟩
    · cases e1
      exact ⟨.ref a, h1, .lst (SqL.of upd_same) (h3.zmono le)⟩
    · obtain ⟨v, g1, g2⟩ := h.sh k e hk
      exact ⟨v, g1, g2.zmono le⟩
  · rcases set_cases hk with ⟨rfl, e1, _⟩ | ⟨hne, hk⟩
    · cases e1
    · obtain ⟨b, g1, g2⟩ := h.ow k e hk
      refine ⟨b, g1, g2.keep (fun _ z => z) le ?_⟩
      rw [upd_ne (fun z => hne (h.apart k j e _ a hk hg (by rw [g1, z]) h1))]
      exact g2.fnone
  · rcases set_cases hk with ⟨rfl, e1, _⟩ | ⟨_, hk⟩
    · cases e1
    · rcases set_cases hl with ⟨rfl, e1, _⟩ | ⟨_, hl⟩
      · cases e1
      · exact h.apart k l e f b hk hl x y
  · rcases set_cases hk with ⟨rfl, e1, _⟩ | ⟨hne, hk⟩
    · cases e1
    · obtain ⟨b, o, ks, q1, q2, q3, q4⟩ := h.lk k n kvs hk
      exact ⟨b, o, ks, q1, q2, le _ _ q3, q4.zmono le⟩
theorem s_share {j : Nat} (hg : γ[j]? = some (.ow (.list ds))) (h : SJ S (γ.set j (.sh (.list ds))) ss p) : SJ S γ ss p := fun σ H F at_ D k1 k2 => by
  obtain ⟨F', a1, le⟩ := at_.share hg
  exact h σ H F' a1 D (fun γ' σ' H' F2 hn a2 l2 => k1 γ' σ' H' F2 hn a2 (le.trans l2)) fun d v H' F2 hr a2 l2 dv => k2 d v H' F2 hr a2 (le.trans l2) dv
theorem s1_ret (h : EJ S γ e d) (hp : p.rt d) : SJ1 S γ (.Return (some e) pos) p := fun σ H F at_ D k1 k2 =>
  wS1_of (fun X hX => ps_ret (pe_w hX)) (h σ H F at_ _ fun v H1 F1 a1 x1 dv => k2 d v H1 F1 hp a1.toAtH x1.f dv)
theorem s1_retN (hp : p.rt .none) : SJ1 S γ (.Return none pos) p := fun σ H F at_ D k1 k2 =>
  wS1_of (fun X hX => ps_retN) (k2 .none .non H F hp at_.toAtH (Le.refl F) .non)
theorem s1_pass (hp : p.nx γ) : SJ1 S γ (.Pass pos) p := fun σ H F at_ D k1 k2 => wS1_of (fun X hX => ps_pass) (k1 γ σ H F hp at_ (Le.refl F))
theorem s1_expr (h : EJ S γ e d) (hs : ∀ X : Cx, swapsWith e none pos.line X.env = pure false) (hp : p.nx γ) : SJ1 S γ (.Expr e pos) p := fun σ H F at_ D k1 k2 =>
  wS1_of (fun X hX => ps_expr (pe_w hX) (hs X)) (h σ H F at_ _ fun v H1 F1 a1 x1 dv => k1 γ σ H1 F1 hp a1 x1.f)
theorem s1_if {sa sb : List Stmt} {k : Bool} (hc : TJ S γ c k) (ha : k = true → SJ S γ sa p) (hb : k = false → SJ S γ sb p) : SJ1 S γ (.If c sa sb pos) p := fun σ H F at_ D k1 k2 =>
  wS1_of (fun X hX => ps_if (pt_w hX) (pss_w hX) (pss_w hX)) (hc σ H F at_ _ fun H1 F1 a1 x1 => by
    cases k with
    | true => exact iteT (ha rfl σ H1 F1 a1 D (fun γ' σ' H' F' hn a2 l2 => k1 γ' σ' H' F' hn a2 (x1.f.trans l2)) fun d v H' F' hr a2 l2 dv => k2 d v H' F' hr a2 (x1.f.trans l2) dv)
    | false => exact iteF (hb rfl σ H1 F1 a1 D (fun γ' σ' H' F' hn a2 l2 => k1 γ' σ' H' F' hn a2 (x1.f.trans l2)) fun d v H' F' hr a2 l2 dv => k2 d v H' F' hr a2 (x1.f.trans l2) dv))
/-- x.append(e) -/
theorem At.owSet {σ : L2.St} {H F : Hp} {j : Nat} {a : Addr} {vs : List V} {ds' : List PyData} (h : At S γ σ H F) (hg : γ[j]? = some (.ow (.list ds))) (h1 : σ[j]? = some (some (.ref a))) (dv : DpAll S.K F vs ds') : At S (γ.set j (.ow (.list ds'))) σ (upd H a (.lst vs)) F := by
  obtain ⟨b, e1, hB, hF, us, h2, h3⟩ := h.ow j _ hg
  rw [h1] at e1; cases e1
  have e : σ.set j (some (.ref a)) = σ := by
    apply List.ext_getElem?
    intro k
    by_cases hk : k = j
    · subst hk
      obtain ⟨hl, _⟩ := List.getElem?_eq_some_iff.mp h1
      rw [List.getElem?_set_self hl, h1]
    · rw [get_set_ne hk]
  have a2 : At S (γ.set j .un) σ H F := by
    have := h.setUn (i := j) (x := some (.ref a))
    rw [e] at this; exact this
  have lo : Loose (γ.set j .un) σ a := fun k f hk z => by
    rcases set_cases hk with ⟨_, e1, _⟩ | ⟨hne, hk⟩
    · cases e1
    · exact hne (h.apart k j f _ a hk hg z h1)
  have a3 := (a2.mut lo hF hB (o := .lst vs) (fun ps z => by rw [h2] at z; cases z) (NotCode.lst h2)).setOw (i := j) (d := .list ds') ⟨hB, hF, vs, upd_same, dv⟩ lo
  have e2 : (γ.set j .un).set j (.ow (.list ds')) = γ.set j (.ow (.list ds')) := List.set_set ..
  rw [e, e2] at a3
  exact a3
theorem s1_app {x : Str} {j : Nat} {pa pc pn : Pos} (hN : S.N[j]? = some x) (hv : Vis S.sc x) (hg : γ[j]? = some (.ow (.list ds))) (h : EJ S γ e d) (hz : ds.length < sizeLine) (hs : PlainE e) (hd : (x == ("__debug__" : Str)) = false) (hcd : (x == ("__classdict__" : Str)) = false)
    (hba : ∀ X : Cx, attributeBase (.Name x pn) "append" X.env (eval (.Name x pn) X.env) = eval (.Name x pn) X.env) (hli : (pa.endLine == pc.line) = true) (hp : p.nx (γ.set j (.ow (.list (ds ++ [d]))))) : SJ1 S γ (.Expr (.Call (.Attribute (.Name x pn) "append" pa) [e] [] pc) pos) p := fun σ H F at_ D k1 k2 => by
  obtain ⟨a, h1, hB, hF, vs, h2, h3⟩ := at_.ow j _ hg
  refine wS1_of (t := tDrop (tBM S.K "list" rAppend (tVar j) (tCons (wE S e) tNil))) (fun X hX => ps_expr (hX.K ▸ pe_bm PySem.F.plainAttrs_list PySem.F.slot_list_append PySem.F.type_list_append mt_append (pe_var (i := j) (by rw [hX.N]; exact hN) (by rw [hX.sc]; exact hv) hd hcd) (pa_cons (pe_w hX) pa_nil (hs [] X.env)) (hba X) (by rw [hs [] X.env]; rfl) hli (hs [] X.env) rfl) rfl) ⟨.ref a, h1, .inl ⟨rfl, _, SqL.of h2⟩, ?_⟩
  refine h σ H F at_ _ fun v H1 F1 a1 x1 dv => ?_
  have h2' : H1 a = some (.lst vs) := x1.h.keep a _ h2 fun _ z => by cases z
  exact ⟨a, vs, v, rfl, rfl, h2', by rw [h3.zlen]; exact hz, k1 _ σ _ F1 hp (a1.owSet hg h1 ((h3.zmono x1.f).zapp (.cons dv .nil))) x1.f⟩
/-- x[i] = e, x an owned list -/
theorem s1_setix {x : Str} {j i : Nat} {k : Int} {pn pt : Pos} (hN : S.N[j]? = some x) (hv : Vis S.sc x) (hg : γ[j]? = some (.ow (.list ds))) (h : EJ S γ e d) (hi : EJ S γ a (.int k)) (hk : ixN ds.length k = some i) (hd : (x == ("__debug__" : Str)) = false) (hcd : (x == ("__classdict__" : Str)) = false)
    (ha : ∀ (X : Cx) v, assign (.Subscript (.Name x pn) a pt) X.env v = (do
      let ov ← holding [v] (eval (.Name x pn) X.env)
      let iv ← holding [v, ov] (eval a X.env)
      standAt pt
      holding [v, ov, iv] (setItem ov iv v)
      release [v, ov, iv] []))
    (hs : ∀ X : Cx, swapsWithSole [.Subscript (.Name x pn) a pt] e pos.line X.env = pure false) (hw : ∀ X : Cx, swappedStores [.Subscript (.Name x pn) a pt] e X.env = pure none) (he : ∀ X : Cx, (assignEach [.Subscript (.Name x pn) a pt] X.env).map (·.2) = [assign (.Subscript (.Name x pn) a pt) X.env])
    (hp : p.nx (γ.set j (.ow (.list (ds.set i d))))) : SJ1 S γ (.Assign [.Subscript (.Name x pn) a pt] e pos) p := fun σ H F at_ D k1 k2 => by
  obtain ⟨b, h1, hB, hF, vs, h2, h3⟩ := at_.ow j _ hg
  refine wS1_of (fun X hX => ps_asg (pe_w hX) (pg_sub (pe_var (i := j) (by rw [hX.N]; exact hN) (by rw [hX.sc]; exact hv) hd hcd) (pe_w hX) set_list (ha X)) (hs X) (hw X) (he X)) (h σ H F at_ _ fun v H1 F1 a1 x1 dv => ⟨.ref b, h1, ?_⟩)
  refine hi σ H1 F1 a1 _ fun u H2 F2 a2 x2 du => ?_
  cases du
  have h2' : H2 b = some (.lst vs) := (x1.trans x2).h.keep b _ h2 fun _ z => by cases z
  exact ⟨b, vs, k, i, rfl, rfl, h2', by rw [h3.zlen]; exact hk, k1 _ σ _ F2 hp (a2.owSet hg h1 (DpAll.zset (dv.zmono x2.f) i (h3.zmono (x1.trans x2).f))) (x1.trans x2).f⟩
/-- for -/
theorem s1_for {body : List Stmt} {items : List PyData} (hi : IF S γ tg iter items) (I : Nat → Gm → Prop) (h0 : I 0 γ) (hb : ∀ i d γ1, items[i]? = some d → I i γ1 → ∃ γ2 is, GJ S γ1 tg d γ2 is ∧ SJ S γ2 body ⟨I (i + 1), p.rt⟩) (hd : ∀ γ1, I items.length γ1 → p.nx γ1)
    (hs : ∀ (X : Cx) x, foldedSetIterable iter X.env x = pure x) : SJ1 S γ (.For tg iter body [] pos) p := fun σ H F at_ D k1 k2 =>
  wS1_of (fun X hX => ps_for (by rw [hX.xe]; exact PassesOwn.never) hX.calm (pi_w hX) (pg_w hX) (pss_w hX) (hs X)) (hi σ H F at_ _ fun J H1 F1 a1 x1 hz w => by
    refine for_it (n := items.length) (G := Le F1) w (Pv := fun i σ2 H2 => ∃ γ2 F2, I i γ2 ∧ At S γ2 σ2 H2 F2 ∧ Le F1 F2) ⟨γ, F1, h0, a1, Le.refl F1⟩ ?_ ?_ ?_
    · rintro i σ2 H2 _ ⟨γ2, F2, _, a2, l2⟩
      exact fun b o e => a2.hf.sub b o (l2 b o e)
    · rintro i x σ2 H2 H3 hi ⟨γ2, F2, hI, a2, l2⟩ ⟨d, hd, hy⟩
      obtain ⟨F3, a3, l3, dx⟩ : ∃ F3, At S γ2 σ2 H3 F3 ∧ Le F2 F3 ∧ Dp S.K F3 x d := by
        rcases hy with ⟨e1, dx⟩ | ⟨T, xs, ds, hT, e1, e2, e3, dx⟩
        · subst e1
          exact ⟨F2, a2, Le.refl F2, dx.zmono l2⟩
        · subst e1; subst e2; subst e3
          have x4 : Ex2 S.tabs H2 F2 (upd H2 T (.tup xs)) (upd F2 T (.tup xs)) := ex_new a2.hf hT
          exact ⟨_, a2.ex x4 (a2.hf.new hT fun _ z => by cases z), x4.f, .tup (SqT.of upd_same) (dx.zmono (l2.trans x4.f))⟩
      obtain ⟨γ4, is, g, hbody⟩ := hb i d γ2 hd hI
      refine g σ2 H3 F3 x a3 dx _ fun σ4 a4 _ _ => ?_
      exact hbody σ4 H3 F3 a4 _ (fun γ5 σ5 H5 F5 hn a5 l5 => ⟨γ5, F5, hn, a5, (l2.trans l3).trans l5⟩) fun d v H5 F5 hr a5 l5 dv => k2 d v H5 F5 hr a5 (((x1.f.trans l2).trans l3).trans l5) dv
    · rintro σ2 H2 ⟨γ2, F2, hI, a2, l2⟩
      exact k1 γ2 σ2 H2 F2 (hd γ2 hI) a2 (x1.f.trans l2))
/-- while: I with what is left of the fuel -/
theorem s1_while {body : List Stmt} (I : Nat → Gm → Prop) {n : Nat} (h0 : I n γ) (hb : ∀ m γ1, I m γ1 → ∃ k, TJ S γ1 c k ∧ (k = true → SJ S γ1 body ⟨fun γ2 => ∃ m', m' < m ∧ I m' γ2, p.rt⟩) ∧ (k = false → p.nx γ1)) : SJ1 S γ (.While c body [] pos) p := fun σ H F at_ D k1 k2 =>
  wS1_of (fun X hX => ps_while (by rw [hX.xe]; exact PassesOwn.never) (pt_w hX) (pss_w hX)) ⟨fun m σ2 H2 => ∃ γ2 F2, I m γ2 ∧ At S γ2 σ2 H2 F2 ∧ Le F F2, ⟨n, γ, F, h0, at_, Le.refl F⟩, by
    rintro m σ2 H2 ⟨γ2, F2, hI, a2, l2⟩
    obtain ⟨k, tc, ht, hf⟩ := hb m γ2 hI
    refine tc σ2 H2 F2 a2 _ fun H3 F3 a3 x3 => ?_
    cases k with
    | true =>
      rw [if_pos rfl]
      refine ⟨fun σ4 H4 => ∃ m', m' < m ∧ ∃ γ4 F4, I m' γ4 ∧ At S γ4 σ4 H4 F4 ∧ Le F F4, fun σ4 H4 h => h, ?_⟩
      exact ht rfl σ2 H3 F3 a3 _ (fun γ4 σ4 H4 F4 ⟨m', hm, hI4⟩ a4 l4 => ⟨m', hm, γ4, F4, hI4, a4, (l2.trans x3.f).trans l4⟩) fun d v H5 F5 hr a5 l5 dv => k2 d v H5 F5 hr a5 ((l2.trans x3.f).trans l5) dv
    | false =>
      rw [if_neg Bool.false_ne_true]
      exact k1 γ2 σ2 H3 F3 (hf rfl) a3 (l2.trans x3.f)⟩
end

/-! ### defs -/
/-- what a def promises: from the arguments' data to the answer's -/
def spR (K : PySem.W.Frag) (tabs : Tbs) (n : Nat) (R : List PyData → PyData → Prop) : Sp := fun vs H Q _ => vs.length = n ∧ ∃ F ds r, HF H F ∧ TbsOk tabs H ∧ DpAll K F vs ds ∧ R ds r ∧
  ∀ v H' F', Ex2 tabs H F H' F' → HF H' F' → Dp K F' v r → Q v H'
abbrev FnR (S : Stat) (k : Nat) (f : Addr) (fd : FuncData) (ps : List Str) (R : List PyData → PyData → Prop) : Prop := FnOk S.P S.w S.K S.mg S.base CX0 k f fd ps (spR S.K S.tabs ps.length R)
section
variable {S : Stat} {γ : Gm} {e : Expr} {es : List Expr} {ds : List PyData} {d : PyData} {pos p : Pos}
/-- f(..) -/
theorem e_call {x : Str} {k : Nat} {f : Addr} {fd : FuncData} {ps : List Str} {R : List PyData → PyData → Prop} (G : FnR S k f fd ps R) (hk : k ≤ S.k) (hg : IsGl S x) (hm : S.mg x = some (.ref f)) (kp : PySem.W.keepIn S.K (.ref f) = true) (hb : Binds S.K fd ps [])
    (ha : AJ S γ (e :: es) ds) (hr : R ds d) (hl : ds.length = ps.length) (hs : PlainE e) (hpl : ∀ X : Cx, (backTo pos (starEach es X.env)).any (·.1) = false) (hdb : (x == ("__debug__" : Str)) = false) : EJ S γ (.Call (.Name x p) (e :: es) [] pos) d := fun σ H F at_ Q q =>
  wE_of (t := tCall (spR S.K S.tabs ps.length R) [] E0 (wA S (e :: es))) (fun X hX => by
    obtain ⟨prog, w, K, mg, base, A, N, s0, H0, env, outer, stack, ex, fn, calm, pn, xe⟩ := X
    obtain ⟨h1, h2, h3, h4, h5, h6, h7, h8, h9, h10, h11, h12⟩ := id hX
    simp only at h1 h2 h3 h4 h5 h9
    subst h1 h2 h3 h4 h5
    exact pe_call G (h9.mono hk) (hX.gl hg) hm kp hb .nil pass0 (pa_w hX) hdb (hs es env) (hpl _))
    (ha σ H F at_ _ fun vs H1 F1 a1 x1 d1 => by
      show spR S.K S.tabs ps.length R (vs ++ []) H1 Q E0
      rw [List.append_nil]
      exact ⟨by rw [d1.zlen]; exact hl, F1, ds, d, a1.hf, a1.tabs, d1, hr, fun v H2 F2 x2 hf dv => q v H2 F2 (a1.ex x2 hf) (x1.trans x2) dv⟩)
end
/-- a def's static part -/
def Stat.of (P : Program) (w : World) (K : PySem.W.Frag) (mg : Str → Option Value) (base : Heap) (N : List Str) (sc : Scope) (k : Nat) (tabs : Tbs) (code : Value) (B F0 : Hp) (x : Str) : Stat := ⟨P, w, K, mg, base, N, sc, fun _ => true, k, tabs, code, B, F0, x ++ ".<locals>."⟩
def gm0 (n : Nat) (ds : List PyData) : Gm := ds.map .sh ++ List.replicate (n - ds.length) .un
theorem dp_start {K : PySem.W.Frag} {F : Hp} {n : Nat} : ∀ {vs : List V} {ds : List PyData}, DpAll K F vs ds → ∀ (i : Nat) (d : PyData), (ds.map Sl.sh ++ List.replicate n .un)[i]? = some (.sh d) → ∃ v, (vs.map some ++ List.replicate n (none : Option V))[i]? = some (some v) ∧ Dp K F v d
  | _, _, .nil, i, d, e => by
    simp only [List.map_nil, List.nil_append, List.getElem?_replicate] at e
    split at e <;> cases e
  | _, _, .cons h t, 0, d, e => by
    cases e
    exact ⟨_, rfl, h⟩
  | _, _, .cons h t, i + 1, d, e => dp_start t i d e
theorem gm0_ow {n : Nat} : ∀ {ds : List PyData} {i : Nat} {d : PyData}, (ds.map Sl.sh ++ List.replicate n .un)[i]? ≠ some (.ow d)
  | [], i, d, e => by
    simp only [List.map_nil, List.nil_append, List.getElem?_replicate] at e
    split at e <;> cases e
  | _ :: ds, 0, d, e => by cases e
  | _ :: ds, i + 1, d, e => gm0_ow (ds := ds) (i := i) (d := d) e
theorem gm0_lk {n : Nat} : ∀ {ds : List PyData} {i : Nat} {m : Int} {kvs : List (PyData × PyData)}, (ds.map Sl.sh ++ List.replicate n .un)[i]? ≠ some (.lk m kvs)
  | [], i, m, kvs, e => by
    simp only [List.map_nil, List.nil_append, List.getElem?_replicate] at e
    split at e <;> cases e
  | _ :: ds, 0, m, kvs, e => by cases e
  | _ :: ds, i + 1, m, kvs, e => gm0_lk (ds := ds) (i := i) (m := m) (kvs := kvs) e
/-- a def by its body -/
theorem def_ok {P : Program} {w : World} {K : PySem.W.Frag} {mg : Str → Option Value} {base : Heap} {x qual : Str} {st : Stmt} {f : Addr} {fd : FuncData} {N ps : List Str} {k : Nat} {tabs : Tbs} {R : List PyData → PyData → Prop} (Fn : Fun K x qual st f fd) (Sc : FnScope N ps (defScope st))
    (hbody : ∀ (cdv : Value) (B F0 : Hp) (ds : List PyData) (r : PyData), ds.length = ps.length → R ds r → SJ (Stat.of P w K mg base N (defScope st) k tabs cdv B F0 qual) (gm0 N.length ds) (defBody st) ⟨fun _ => r = .none, fun d => d = r⟩) : FnOk P w K mg base CX0 (k + 1) f fd ps (spR K tabs ps.length R) := by
  refine Fn.ok Sc (fun vs H Q E h => h.1) fun cdv A outer s H vs Q E hr h => ?_
  obtain ⟨hl, F, ds, r, hf, tb, dv, hR, q⟩ := h
  have hX : IsCx (Stat.of P w K mg base N (defScope st) k tabs cdv H F qual) (cxOf CX0 P w K mg base N qual (defScope st) f cdv A outer s H E).nox :=
    ⟨rfl, rfl, rfl, rfl, rfl, rfl, rfl, rfl, hr, rfl, rfl, rfl, rfl⟩
  have hlen : ds.length = ps.length := dv.zlen ▸ hl
  have hpl : ps.length ≤ N.length := by
    have := congrArg List.length Sc.pre
    rw [List.length_take] at this
    omega
  refine ⟨_, pss_w hX, hbody cdv H F ds r hlen hR (L2.start N vs) H F ⟨⟨Ext.refl H, hf, Le.refl F, (fun a o e n => by have n' : F a = none := n; rw [n'] at e; cases e), tb⟩, ?_, fun i d e => ?_, fun i d e => ?_, fun i j d e a h1 => ?_, fun i n kvs h1 => ?_⟩ _ ?_ ?_⟩
  · unfold L2.start gm0
    rw [List.length_append, List.length_append, List.length_map, List.length_map, List.length_replicate, List.length_replicate, dv.zlen]
  · unfold gm0 at e
    unfold L2.start
    rw [dv.zlen]
    exact dp_start dv i d e
  · exact absurd e gm0_ow
  · exact absurd h1 gm0_ow
  · exact absurd h1 gm0_lk
  · rintro γ' σ' H' F' hn a1 le
    refine q .non H' F' ⟨a1.ext, a1.f0, a1.new⟩ a1.hf ?_
    have : r = .none := hn
    rw [this]; exact .non
  · rintro d v H' F' hd a1 le dv'
    obtain rfl : d = r := hd
    exact q v H' F' ⟨a1.ext, a1.f0, a1.new⟩ a1.hf dv'
end SM

set_option autoImplicit false
set_option Elab.async false
set_option linter.all false
set_option maxRecDepth 100000
set_option maxHeartbeats 4000000
namespace SM
open PySem PySem.Spec PyProof.Rows L2

/-! ### statements against an Option -/
inductive Res (ρ τ : Type) where
  | ret (r : ρ) | nx (t : τ)
def J {α : Type} (S : Stat) (γ : Gm) (ss : List Stmt) (post : α → Post) (o : Option α) : Prop := ∀ x, o = some x → SJ S γ ss (post x)
def pT {ρ : Type} (enc : ρ → PyData) : ρ → Post := fun r => ⟨fun _ => False, fun d => d = enc r⟩
def pN {τ : Type} (γof : τ → Gm) : τ → Post := fun t => ⟨fun γ' => GLe γ' (γof t), fun _ => False⟩
def pM {ρ τ : Type} (enc : ρ → PyData) (γof : τ → Gm) : Res ρ τ → Post
  | .ret r => ⟨fun _ => False, fun d => d = enc r⟩
  | .nx t => ⟨fun γ' => GLe γ' (γof t), fun _ => False⟩
def Post.noNx (p : Post) : Post := ⟨fun _ => False, p.rt⟩
theorem SJ.imp {S : Stat} {γ : Gm} {ss : List Stmt} {p p' : Post} (h : SJ S γ ss p) (h1 : ∀ g, p.nx g → p'.nx g) (h2 : ∀ d, p.rt d → p'.rt d) : SJ S γ ss p' := fun σ H F at_ D k1 k2 =>
  h σ H F at_ D (fun γ' σ' H' F' hn => k1 γ' σ' H' F' (h1 _ hn)) fun d v H' F' hr => k2 d v H' F' (h2 _ hr)
theorem gle_nil : GLe [] [] := trivial
theorem gle_un {x : Sl} {r r' : Gm} (h : GLe r r') : GLe (x :: r) (.un :: r') := h
theorem gle_eq {x : Sl} {r r' : Gm} (h : GLe r r') : GLe (x :: r) (x :: r') := by
  cases x <;> first | exact h | exact ⟨rfl, h⟩
theorem gle_to {x y : Sl} {r r' : Gm} (e : x = y) (h : GLe r r') : GLe (x :: r) (y :: r') := e ▸ gle_eq h
theorem GLe.rfl : ∀ {γ : Gm}, GLe γ γ
  | [] => gle_nil
  | _ :: _ => gle_eq GLe.rfl
section
variable {S : Stat} {γ γ' : Gm} {ss rest sa sb body : List Stmt} {e a b c tg iter elt : Expr} {d : PyData} {ds : List PyData} {pos px : Pos} {α β τ ρ : Type} {post : α → Post} {o : Option α} {is : List Nat}
theorem j_bind {x : Option τ} {f : τ → Option α} (h : ∀ t, x = some t → J S γ ss post (f t)) : J S γ ss post (x.bind f) := fun y hy => by
  obtain ⟨t, h1, h2⟩ := Option.bind_eq_some_iff.mp hy
  exact h t h1 y h2
theorem j_weak {γ2 : Gm} (w : GLe γ γ2) (h : J S γ2 ss post o) : J S γ ss post o := fun x hx => s_weak w (h x hx)
theorem j_ret {x : α} (h : EJ S γ e d) (hp : (post x).rt d) : J S γ (.Return (some e) pos :: rest) post (some x) := fun y hy => by
  cases hy
  exact s_cons (N := fun _ => False) (s1_ret h hp) fun _ z => z.elim
theorem j_nil {x : α} (h : (post x).nx γ) : J S γ [] post (some x) := fun y hy => by cases hy; exact s_nil h
theorem j_set {x : Str} {i : Nat} (n : NmOk S x i) (h : EJ S γ e d) (hs : ∀ X, IsCx S X → swapsWith e (some (.Name x px)) pos.line X.env = pure false) (hr : J S (γ.set i (.sh d)) rest post o) : J S γ (.Assign [.Name x px] e pos :: rest) post o := fun y hy =>
  s_cons (N := fun g => g = γ.set i (.sh d)) (s1_set n h hs rfl) fun g hg => by subst hg; exact hr y hy
theorem j_setF {x : Str} {i : Nat} (n : NmOk S x i) (h : FJ S γ e ds) (hs : ∀ X, IsCx S X → swapsWith e (some (.Name x px)) pos.line X.env = pure false) (hr : J S (γ.set i (.ow (.list ds))) rest post o) : J S γ (.Assign [.Name x px] e pos :: rest) post o := fun y hy =>
  s_cons (N := fun g => g = γ.set i (.ow (.list ds))) (s1_setF n h hs rfl) fun g hg => by subst hg; exact hr y hy
theorem j_setLc {encA : τ → PyData} {encB : β → PyData} {xs : List τ} {ys : List β} {f : τ → Option (Option β)} {x : Str} {i : Nat} {ifs : List Expr} {scope : Scope} {own : List (Str × Nat)} {pl : Pos} (n : NmOk S x i) (hy : S.sc.names.lookup x = some .local)
    (hi : IX S γ tg iter (xs.map encA)) (hb : ∀ x ∈ xs, CBO (S.blk scope) (wipeG γ (own.map (·.2))) tg ifs elt (own.map (·.2)) (encA x) encB (f x)) (hr : compM f xs = some ys)
    (ok : blkC S.N S.sc scope own = true) (h1 : ifs.length ≤ 1) (hs : ∀ (X : Cx) x, foldedSetIterable iter X.env x = pure x) (hli : (px.line == pl.line) = true) (hk : S.sc.kind = .function)
    (hsn : (scope.names.any fun (n, k) => n == x && (k == .local || k == .cell)) = false) (hrest : J S (γ.set i (.ow (.list (ys.map encB)))) rest post o) : J S γ (.Assign [.Name x px] (.ListComp elt [⟨tg, iter, ifs, 0⟩] scope pl) pos :: rest) post o := fun y hyy => by
  obtain ⟨rs, l, g, e⟩ := compM_get hr
  have e2 : (rs.map fun r => r.map encB).filterMap id = ys.map encB := by rw [fm_map, ← e]
  refine s_cons (N := fun g => g = γ.set i (.ow (.list ((rs.map fun r => r.map encB).filterMap id)))) (s1_setLc (outs := rs.map fun r => r.map encB) n hy hi (fun i d hd => ?_) (by rw [List.length_map, List.length_map, l]) ok h1 hs hli hk hsn rfl) fun g hg => by subst hg; rw [e2]; exact hrest y hyy
  rw [List.getElem?_map] at hd
  cases hx : xs[i]? with
  | none => rw [hx] at hd; cases hd
  | some x =>
    rw [hx] at hd
    obtain rfl : encA x = d := Option.some.inj hd
    obtain ⟨r, h2, h3⟩ := g i x hx
    exact ⟨r.map encB, by rw [List.getElem?_map, h2]; rfl, hb x (List.mem_of_getElem? hx) r h3⟩
theorem j_asg (h : EJ S γ e d) (g : GJ S γ tg d γ' is) (hs : ∀ X : Cx, swapsWithSole [tg] e pos.line X.env = pure false) (hw : ∀ X : Cx, swappedStores [tg] e X.env = pure none) (h1 : ∀ X : Cx, (assignEach [tg] X.env).map (·.2) = [assign tg X.env]) (hr : J S γ' rest post o) : J S γ (.Assign [tg] e pos :: rest) post o := fun y hy =>
  s_cons (N := fun g => g = γ') (s1_asg h g hs hw h1 rfl) fun g hg => by subst hg; exact hr y hy
theorem j_mv {x y : Str} {i j : Nat} {py : Pos} (n : NmOk S x i) (hN : S.N[j]? = some y) (hv : Vis S.sc y) (hg : γ[j]? = some (.ow d)) (hd : (y == ("__debug__" : Str)) = false) (hcd : (y == ("__classdict__" : Str)) = false)
    (hr : J S ((γ.set j .un).set i (.ow d)) rest post o) : J S γ (.Assign [.Name x px] (.Name y py) pos :: rest) post o := fun z hz =>
  s_cons (N := fun g => g = (γ.set j .un).set i (.ow d)) (s1_mv n hN hv hg hd hcd rfl) fun g hg => by subst hg; exact hr z hz
theorem j_share {j : Nat} (hg : γ[j]? = some (.ow (.list ds))) (h : J S (γ.set j (.sh (.list ds))) ss post o) : J S γ ss post o := fun y hy => s_share hg (h y hy)
theorem j_expr (h : EJ S γ e d) (hs : ∀ X : Cx, swapsWith e none pos.line X.env = pure false) (hr : J S γ rest post o) : J S γ (.Expr e pos :: rest) post o := fun y hy =>
  s_cons (N := fun g => g = γ) (s1_expr h hs rfl) fun g hg => by subst hg; exact hr y hy
theorem j_app {enc : τ → PyData} {xs : List τ} {v : τ} {x : Str} {j : Nat} {pa pc pn : Pos} (hN : S.N[j]? = some x) (hv : Vis S.sc x) (hg : γ[j]? = some (.ow (.list (xs.map enc)))) (h : EJ S γ e (enc v)) (hz : xs.length < sizeLine) (hs : PlainE e) (hd : (x == ("__debug__" : Str)) = false) (hcd : (x == ("__classdict__" : Str)) = false)
    (hba : ∀ X : Cx, attributeBase (.Name x pn) "append" X.env (eval (.Name x pn) X.env) = eval (.Name x pn) X.env) (hli : (pa.endLine == pc.line) = true) (hr : J S (γ.set j (.ow (.list ((xs ++ [v]).map enc)))) rest post o) : J S γ (.Expr (.Call (.Attribute (.Name x pn) "append" pa) [e] [] pc) pos :: rest) post o := fun y hy =>
  s_cons (N := fun g => g = γ.set j (.ow (.list ((xs ++ [v]).map enc)))) (s1_app hN hv hg h (by rw [List.length_map]; exact hz) hs hd hcd hba hli (by rw [List.map_append]; rfl)) fun g hg => by subst hg; exact hr y hy
theorem map_set {enc : τ → PyData} : ∀ (xs : List τ) (i : Nat) (v : τ), (xs.map enc).set i (enc v) = (xs.set i v).map enc := fun xs i v => (List.map_set ..).symm
theorem j_setix {enc : τ → PyData} {xs : List τ} {v : τ} {x : Str} {j i : Nat} {k : Int} {pn pt : Pos} (hN : S.N[j]? = some x) (hv : Vis S.sc x) (hg : γ[j]? = some (.ow (.list (xs.map enc)))) (h : EJ S γ e (enc v)) (hi : EJ S γ a (.int k)) (hk : ixN xs.length k = some i) (hd : (x == ("__debug__" : Str)) = false) (hcd : (x == ("__classdict__" : Str)) = false)
    (ha : ∀ (X : Cx) v, assign (.Subscript (.Name x pn) a pt) X.env v = (do
      let ov ← holding [v] (eval (.Name x pn) X.env)
      let iv ← holding [v, ov] (eval a X.env)
      standAt pt
      holding [v, ov, iv] (setItem ov iv v)
      release [v, ov, iv] []))
    (hs : ∀ X : Cx, swapsWithSole [.Subscript (.Name x pn) a pt] e pos.line X.env = pure false) (hw : ∀ X : Cx, swappedStores [.Subscript (.Name x pn) a pt] e X.env = pure none) (he : ∀ X : Cx, (assignEach [.Subscript (.Name x pn) a pt] X.env).map (·.2) = [assign (.Subscript (.Name x pn) a pt) X.env])
    (hr : J S (γ.set j (.ow (.list ((xs.set i v).map enc)))) rest post o) : J S γ (.Assign [.Subscript (.Name x pn) a pt] e pos :: rest) post o := fun y hy =>
  s_cons (N := fun g => g = γ.set j (.ow (.list ((xs.set i v).map enc)))) (s1_setix hN hv hg h hi (by rw [List.length_map]; exact hk) hd hcd ha hs hw he (by rw [map_set])) fun g hg => by subst hg; exact hr y hy
/-- if c: .. return; rest -/
theorem j_ifR {k : Bool} {o1 o2 : Option α} (hc : TJ S γ c k) (ha : k = true → J S γ sa (fun x => (post x).noNx) o1) (hr : k = false → J S γ rest post o2) : J S γ (.If c sa [] pos :: rest) post (if k = true then o1 else o2) := fun y hy => by
  cases k with
  | true =>
    rw [if_pos rfl] at hy
    exact s_cons (N := fun _ => False) (s1_if hc (fun _ => (ha rfl y hy).imp (fun _ z => z) fun _ z => z) fun z => by cases z) fun _ z => z.elim
  | false =>
    rw [if_neg Bool.false_ne_true] at hy
    exact s_cons (N := fun g => g = γ) (s1_if hc (fun z => by cases z) fun _ => s_nil rfl) fun g hg => by subst hg; exact hr rfl y hy
/-- if c: .. return; else: .. return -/
theorem j_ifE {k : Bool} {o1 o2 : Option α} (hc : TJ S γ c k) (ha : k = true → J S γ sa (fun x => (post x).noNx) o1) (hb : k = false → J S γ sb (fun x => (post x).noNx) o2) : J S γ (.If c sa sb pos :: rest) post (if k = true then o1 else o2) := fun y hy => by
  cases k with
  | true =>
    rw [if_pos rfl] at hy
    exact s_cons (N := fun _ => False) (s1_if hc (fun _ => (ha rfl y hy).imp (fun _ z => z) fun _ z => z) fun z => by cases z) fun _ z => z.elim
  | false =>
    rw [if_neg Bool.false_ne_true] at hy
    exact s_cons (N := fun _ => False) (s1_if hc (fun z => by cases z) fun _ => (hb rfl y hy).imp (fun _ z => z) fun _ z => z) fun _ z => z.elim
/-- both ways go on -/
theorem j_ifJ {k : Bool} {γj : τ → Gm} {o1 o2 : Option τ} {f : τ → Option α} (hc : TJ S γ c k) (ha : k = true → J S γ sa (pN γj) o1) (hb : k = false → J S γ sb (pN γj) o2) (hr : ∀ t, J S (γj t) rest post (f t)) : J S γ (.If c sa sb pos :: rest) post ((if k = true then o1 else o2).bind f) := fun y hy => by
  obtain ⟨t, h1, h2⟩ := Option.bind_eq_some_iff.mp hy
  refine s_cons (N := fun g => GLe g (γj t)) (s1_if (k := k) hc (fun hk => ?_) fun hk => ?_) fun g hg => s_weak hg (hr t y h2)
  · subst hk
    exact (ha rfl t (by simpa using h1)).imp (fun _ z => z) fun _ z => z.elim
  · subst hk
    exact (hb rfl t (by simpa using h1)).imp (fun _ z => z) fun _ z => z.elim
def Res.elim {ρ τ α : Type} (inj : ρ → α) (f : τ → Option α) : Res ρ τ → Option α
  | .ret r => some (inj r)
  | .nx t => f t
/-- each way goes on or returns -/
theorem j_ifM {k : Bool} {encR : ρ → PyData} {inj : ρ → α} {γj : τ → Gm} {o1 o2 : Option (Res ρ τ)} {f : τ → Option α} (hc : TJ S γ c k) (ha : k = true → J S γ sa (pM encR γj) o1) (hb : k = false → J S γ sb (pM encR γj) o2) (hinj : ∀ r, (post (inj r)).rt (encR r)) (hr : ∀ t, J S (γj t) rest post (f t)) :
    J S γ (.If c sa sb pos :: rest) post ((if k = true then o1 else o2).bind (Res.elim inj f)) := fun y hy => by
  obtain ⟨x, h1, h2⟩ := Option.bind_eq_some_iff.mp hy
  have run : SJ1 S γ (.If c sa sb pos) (pM encR γj x) := s1_if (k := k) hc (fun hk => by subst hk; exact ha rfl x (by simpa using h1)) fun hk => by subst hk; exact hb rfl x (by simpa using h1)
  cases x with
  | ret r =>
    cases h2
    refine s_cons (N := fun _ => False) (fun σ H F at_ D k1 k2 => run σ H F at_ D (fun _ _ _ _ z => z.elim) fun d v H' F' hd => k2 d v H' F' ?_) fun _ z => z.elim
    obtain rfl : d = encR r := hd
    exact hinj r
  | nx t => exact s_cons (N := fun g => GLe g (γj t)) (fun σ H F at_ D k1 k2 => run σ H F at_ D k1 fun _ _ _ _ z => z.elim) fun g hg => s_weak hg (hr t y h2)
theorem GJ.weak {γ2 : Gm} (w : GLe γ γ2) (h : GJ S γ2 tg d γ' is) : GJ S γ tg d γ' is := fun σ H F v at_ dv Q q => h σ H F v (at_.weak w) dv Q q
theorem at_map {enc : τ → PyData} {xs : List τ} {i : Nat} (h : (xs.map enc)[i]? = some d) : ∃ x, xs[i]? = some x ∧ enc x = d := by
  rw [List.getElem?_map] at h
  cases hx : xs[i]? with
  | none => rw [hx] at h; cases h
  | some x => rw [hx] at h; exact ⟨x, rfl, Option.some.inj h⟩
theorem drop_at {xs : List τ} {i : Nat} {x : τ} (h : xs[i]? = some x) : xs.drop i = x :: xs.drop (i + 1) := by
  obtain ⟨hl, e⟩ := List.getElem?_eq_some_iff.mp h
  rw [← e]; exact List.drop_eq_getElem_cons hl
/-- for, that goes on -/
theorem j_for {enc : τ → PyData} {xs : List τ} {γ0 : β → Gm} {t0 : β} {f : β → τ → Option β} {k : β → Option α} (hi : IF S γ tg iter (xs.map enc)) (h0 : GLe γ (γ0 t0))
    (hb : ∀ t, ∀ x ∈ xs, ∃ γ2 is, GJ S (γ0 t) tg (enc x) γ2 is ∧ J S γ2 body (pN γ0) (f t x)) (hr : ∀ t, J S (γ0 t) rest post (k t)) (hs : ∀ (X : Cx) x, foldedSetIterable iter X.env x = pure x) : J S γ (.For tg iter body [] pos :: rest) post ((xs.foldlM f t0).bind k) := fun y hy => by
  obtain ⟨t1, h1, h2⟩ := Option.bind_eq_some_iff.mp hy
  refine s_cons (N := fun g => GLe g (γ0 t1)) (s1_for hi (fun i g => ∃ t, GLe g (γ0 t) ∧ (xs.drop i).foldlM f t = some t1) ⟨t0, h0, h1⟩ ?_ ?_ hs) fun g hg => s_weak hg (hr t1 y h2)
  · rintro i d g hd ⟨t, hg, hf⟩
    obtain ⟨x, hx, rfl⟩ := at_map hd
    rw [drop_at hx, List.foldlM_cons] at hf
    obtain ⟨t', h3, h4⟩ := Option.bind_eq_some_iff.mp hf
    obtain ⟨γ2, is, g1, g2⟩ := hb t x (List.mem_of_getElem? hx)
    exact ⟨γ2, is, g1.weak hg, (g2 t' h3).imp (fun g hg => ⟨t', hg, h4⟩) fun _ z => z.elim⟩
  · rintro g ⟨t, hg, hf⟩
    rw [List.length_map, List.drop_length] at hf
    cases hf
    exact hg
def foldR {ρ τ β : Type} (f : β → τ → Option (Res ρ β)) : β → List τ → Option (Res ρ β)
  | t, [] => some (.nx t)
  | t, x :: xs => (f t x).bind (Res.elim .ret fun t' => foldR f t' xs)
/-- for, with a return within -/
theorem j_forR {enc : τ → PyData} {xs : List τ} {encR : ρ → PyData} {inj : ρ → α} {γ0 : β → Gm} {t0 : β} {f : β → τ → Option (Res ρ β)} {k : β → Option α} (hi : IF S γ tg iter (xs.map enc)) (h0 : GLe γ (γ0 t0))
    (hb : ∀ t, ∀ x ∈ xs, ∃ γ2 is, GJ S (γ0 t) tg (enc x) γ2 is ∧ J S γ2 body (pM encR γ0) (f t x)) (hinj : ∀ r, (post (inj r)).rt (encR r)) (hr : ∀ t, J S (γ0 t) rest post (k t)) (hs : ∀ (X : Cx) x, foldedSetIterable iter X.env x = pure x) :
    J S γ (.For tg iter body [] pos :: rest) post ((foldR f t0 xs).bind (Res.elim inj k)) := fun y hy => by
  obtain ⟨r1, h1, h2⟩ := Option.bind_eq_some_iff.mp hy
  have run : SJ1 S γ (.For tg iter body [] pos) (pM encR γ0 r1) := by
    refine s1_for hi (fun i g => ∃ t, GLe g (γ0 t) ∧ foldR f t (xs.drop i) = some r1) ⟨t0, h0, h1⟩ ?_ ?_ hs
    · rintro i d g hd ⟨t, hg, hf⟩
      obtain ⟨x, hx, rfl⟩ := at_map hd
      rw [drop_at hx] at hf
      unfold foldR at hf
      obtain ⟨t', h3, h4⟩ := Option.bind_eq_some_iff.mp hf
      obtain ⟨γ2, is, g1, g2⟩ := hb t x (List.mem_of_getElem? hx)
      refine ⟨γ2, is, g1.weak hg, ?_⟩
      cases t' with
      | ret r =>
        cases h4
        exact (g2 _ h3).imp (fun _ z => z.elim) fun _ z => z
      | nx t2 => exact (g2 _ h3).imp (fun g hg => ⟨t2, hg, h4⟩) fun _ z => z.elim
    · rintro g ⟨t, hg, hf⟩
      rw [List.length_map, List.drop_length] at hf
      cases hf
      exact hg
  cases r1 with
  | ret r =>
    cases h2
    refine s_cons (N := fun _ => False) (fun σ H F at_ D k1 k2 => run σ H F at_ D (fun _ _ _ _ z => z.elim) fun d v H' F' hd => k2 d v H' F' ?_) fun _ z => z.elim
    obtain rfl : d = encR r := hd
    exact hinj r
  | nx t => exact s_cons (N := fun g => GLe g (γ0 t)) (fun σ H F at_ D k1 k2 => run σ H F at_ D k1 fun _ _ _ _ z => z.elim) fun g hg => s_weak hg (hr t y h2)
def whileR {ρ β : Type} (c : β → Option Bool) (f : β → Option (Res ρ β)) : Nat → β → Option (Res ρ β)
  | 0, _ => none
  | n + 1, t => (c t).bind fun k => if k = true then (f t).bind (Res.elim .ret (whileR c f n)) else some (.nx t)
/-- while, of n turns at most -/
theorem j_while {encR : ρ → PyData} {inj : ρ → α} {γ0 : β → Gm} {t0 : β} {n : Nat} {cc : β → Option Bool} {f : β → Option (Res ρ β)} {k : β → Option α} (h0 : GLe γ (γ0 t0)) (hc : ∀ t b, cc t = some b → TJ S (γ0 t) c b)
    (hb : ∀ t, cc t = some true → J S (γ0 t) body (pM encR γ0) (f t)) (hinj : ∀ r, (post (inj r)).rt (encR r)) (hr : ∀ t, J S (γ0 t) rest post (k t)) :
    J S γ (.While c body [] pos :: rest) post ((whileR cc f n t0).bind (Res.elim inj k)) := fun y hy => by
  obtain ⟨r1, h1, h2⟩ := Option.bind_eq_some_iff.mp hy
  have run : SJ1 S γ (.While c body [] pos) (pM encR γ0 r1) := by
    refine s1_while (fun m g => ∃ t, GLe g (γ0 t) ∧ whileR cc f m t = some r1) (n := n) ⟨t0, h0, h1⟩ ?_
    rintro m g ⟨t, hg, hf⟩
    cases m with
    | zero => cases hf
    | succ m =>
      unfold whileR at hf
      obtain ⟨b, h3, h4⟩ := Option.bind_eq_some_iff.mp hf
      refine ⟨b, fun σ H F at_ Q q => hc t b h3 σ H F (at_.weak hg) Q fun H' F' a1 x1 => q H' F' (at_.ex x1 a1.hf) x1, fun hb1 => ?_, fun hb1 => ?_⟩
      · subst hb1
        rw [if_pos rfl] at h4
        obtain ⟨t', h5, h6⟩ := Option.bind_eq_some_iff.mp h4
        refine s_weak hg ?_
        cases t' with
        | ret r =>
          cases h6
          exact (hb t h3 _ h5).imp (fun _ z => z.elim) fun _ z => z
        | nx t2 => exact (hb t h3 _ h5).imp (fun g hg => ⟨m, Nat.lt_succ_self m, t2, hg, h6⟩) fun _ z => z.elim
      · subst hb1
        rw [if_neg Bool.false_ne_true] at h4
        cases h4
        exact hg
  cases r1 with
  | ret r =>
    cases h2
    refine s_cons (N := fun _ => False) (fun σ H F at_ D k1 k2 => run σ H F at_ D (fun _ _ _ _ z => z.elim) fun d v H' F' hd => k2 d v H' F' ?_) fun _ z => z.elim
    obtain rfl : d = encR r := hd
    exact hinj r
  | nx t => exact s_cons (N := fun g => GLe g (γ0 t)) (fun σ H F at_ D k1 k2 => run σ H F at_ D k1 fun _ _ _ _ z => z.elim) fun g hg => s_weak hg (hr t y h2)
end
end SM

set_option autoImplicit false
set_option Elab.async false
set_option linter.all false
set_option maxRecDepth 100000
set_option maxHeartbeats 4000000
namespace SM
open PySem PySem.Spec PyProof.Rows L2

/-! ### t[::-1] of a tuple -/
section
variable {prog : Program} {w : World} {A : Around} {E : Value → Shared → Prop} {s : Shared}
theorem slice_back {sl : Addr} {vl vu vs : Value} {n : Nat} {Q : Int × Int × Nat → Shared → Prop} (hs : s.heap.IsSliceOf sl vl vu vs) (pl : IsPart vl none) (pu : IsPart vu none) (ps : IsPart vs (some (-1)))
    (h : Q ((n : Int) - 1, -1, n) s) : wpAny (model prog w) A (Builtin.Slice.sliceApplied (.ref sl) (pure (n : Int))) Q E s := by
  obtain ⟨os, e1, e2, e3⟩ := hs
  unfold Builtin.Slice.sliceApplied Builtin.Slice.sliceFields
  refine wpAny_bind (wpAny_bind (wpAny_field e1 e3 (x := vl) rfl (wpAny_bind (wpAny_field e1 e3 (x := vu) rfl (wpAny_bind (wpAny_field e1 e3 (x := vs) rfl (wpAny_pure ?_)))))))
  refine wpAny_bind (HT.slicePart_ ps ?_)
  show wpAny _ _ (if ((-1 : Int) == 0) = true then _ else _) _ _ s
  rw [if_neg (by decide)]
  refine wpAny_bind (HT.slicePart_ pl (wpAny_bind (HT.slicePart_ pu (wpAny_bind (wpAny_pure ?_)))))
  have ea : Builtin.Slice.sliceAdjust none none (-1) (n : Int) = ((n : Int) - 1, -1) := by
    unfold Builtin.Slice.sliceAdjust
    simp
  have eb : Builtin.Slice.slicePlaces ((n : Int) - 1) (-1) (-1) = n := by
    unfold Builtin.Slice.slicePlaces
    simp
    omega
  show wpAny _ _ (match Builtin.Slice.sliceAdjust none none (-1) (n : Int) with | (lo, hi) => pure (lo, (-1 : Int), Builtin.Slice.slicePlaces lo hi (-1))) _ _ s
  rw [ea]
  show wpAny _ _ (pure ((n : Int) - 1, (-1 : Int), Builtin.Slice.slicePlaces ((n : Int) - 1) (-1) (-1))) _ _ s
  rw [eb]
  exact wpAny_pure h
theorem fm_congr {f g : Nat → Option Value} : ∀ (m : Nat) (_ : True), (∀ k, k < m → f k = g k) → (List.range m).filterMap f = (List.range m).filterMap g
  | 0, _, _ => rfl
  | m + 1, t, h => by
    rw [List.range_succ, List.filterMap_append, List.filterMap_append, fm_congr m t fun k hk => h k (Nat.lt_succ_of_lt hk)]
    rw [List.filterMap_cons, List.filterMap_cons, h m (Nat.lt_succ_self m), List.filterMap_nil, List.filterMap_nil]
theorem fm_take (l : List Value) : ∀ (m : Nat), m ≤ l.length → (List.range m).filterMap (fun k => l[k]?) = l.take m
  | 0, _ => rfl
  | m + 1, hm => by
    rw [List.range_succ, List.filterMap_append, fm_take l m (by omega), List.take_add_one]
    congr 1
theorem pick_back (xs : Array Value) : ((List.range xs.size).filterMap fun (k : Nat) => xs[((xs.size : Int) - 1 + (k : Int) * (-1)).toNat]?).toArray = xs.toList.reverse.toArray := by
  congr 1
  have : ((List.range xs.size).filterMap fun (k : Nat) => xs[((xs.size : Int) - 1 + (k : Int) * (-1)).toNat]?) = (List.range xs.size).filterMap fun k => xs.toList.reverse[k]? := by
    exact fm_congr _ trivial fun k hk => by
      have e : ((xs.size : Int) - 1 + (k : Int) * (-1)).toNat = xs.size - 1 - k := by omega
      rw [e, List.getElem?_reverse (by simpa using hk), Array.length_toList, Array.getElem?_toList]
  rw [this, fm_take _ _ (by simp), List.take_of_length_le (by simp)]
theorem getItem_back {t sl : Addr} {items : Array Value} {vl vu vs : Value} {Q : Value → Shared → Prop} (ht : IsTup s.heap t items) (hs : s.heap.IsSliceOf sl vl vu vs) (pl : IsPart vl none) (pu : IsPart vu none) (ps : IsPart vs (some (-1)))
    (h : Q (.ref s.heap.objs.size) { s with heap := s.heap.push { cls := .type "tuple", data := .seq items.toList.reverse.toArray } })
    (hz : items.size ≤ sizeLine) : wpAny (model prog w) A (getItem (.ref t) (.ref sl)) Q E s := by
  have hok : sizeOk (.seq items.toList.reverse.toArray) := by
    show items.toList.reverse.toArray.size ≤ sizeLine
    rw [List.size_toArray, List.length_reverse, Array.length_toList]
    exact hz
  obtain ⟨os, e1, e2, e3⟩ := id hs
  have hTs : s.TypeIs (.ref sl) "slice" := ⟨os, e1, e2⟩
  unfold getItem
  try with_reducible refine wpAny_holding ?_
  first | refine wpAny_bind (wpAny_pure ?_) | skip
  refine wpAny_bind (wpAny_sequenceKey ht.typeIs (by decide) ?_)
  refine wpAny_bind (wpAny_callSpecial?_slot (name := Str.ofString "__getitem__") ht.typeIs slot_tuple_getitem (wpAny_call_entry slot_tuple_getitem ht.typeIs entry_tuple_getitem ?_ (args_tuple_getitem _ _)))
  show wpAny _ _ (Builtin.Tuple.tupleItemsOf (.ref t) >>= _) _ _ s
  refine wpAny_bind (tupleItemsOf_ ht ?_)
  refine wpAny_bind (wpAny_typeOf hTs ?_)
  rw [if_pos (by decide)]
  refine wpAny_bind (slice_back hs pl pu ps ?_)
  show wpAny _ _ (if (((items.size : Int) - 1) == 0 && (-1 : Int) == 1 && items.size == items.size) = true then _ else _) _ _ s
  rw [if_neg (by simp), pick_back]
  first
    | exact wpAny_bind (m := Builtin.Tuple.tupleExact _) (wpAny_newObj_type (wpAny_pure ⟨_, rfl, wpAny_pure h⟩) hok)
    | exact wpAny_bind (m := Builtin.Tuple.tupleExact _) (wpAny_newObj_type (wpAny_bind (wpAny_pure (wpAny_pure ⟨_, rfl, wpAny_pure h⟩))) hok)
    | exact wpAny_bind (wpAny_bind (m := Builtin.Tuple.tupleExact _) (wpAny_newObj_type (wpAny_pure (wpAny_pure ⟨_, rfl, wpAny_pure h⟩)) hok))
    | exact wpAny_bind (wpAny_bind (m := Builtin.Tuple.tupleExact _) (wpAny_newObj_type (wpAny_pure ⟨_, rfl, wpAny_pure h⟩) hok))
end
def tRevT (K : PySem.W.Frag) (te : TE) : TE := fun σ H Q => te σ H fun x H1 => ∃ a xs, x = .ref a ∧ SqT K H1 a xs ∧ ∀ p, H1 p = none → Q (.ref p) (upd H1 p (.tup xs.reverse))
theorem pe_revT {X : Cx} {e : Expr} {te : TE} {k : Nat} {p1 p2 p3 pos : Pos} (he : PE X e te) : PE X (.Subscript e (.Slice none none (some (.UnaryOp .USub (.Constant (.int 1) k p1) p2)) p3) pos) (tRevT X.K te) := by
  refine ⟨fun pins s σ H Q I h => Subscript_ (thn (he.run pins s σ H _ I h) fun v s1 ⟨x, H1, I1, r1, q1⟩ => ?_)⟩
  obtain ⟨a, xs, rfl, hx, q⟩ := q1
  cases r1
  have hst : PO X (some (.UnaryOp .USub (.Constant (.int 1) k p1) p2)) (tPart (tUn (rU fun i => .int (-i)) (tC (.int 1)))) := po_some (pe_un un_neg pe_int)
  refine wpAny_Slice (thn (po_none.run pins s1 σ H1 (fun o H2 => o = none ∧ H2 = H1) I1 ⟨rfl, rfl⟩) fun vl s2 ⟨l, H2, I2, pl, el, e2⟩ => ?_)
  subst el e2
  refine thn (po_none.run pins s2 σ H2 (fun o H3 => o = none ∧ H3 = H2) I2 ⟨rfl, rfl⟩) fun vu s3 ⟨u, H3, I3, pu, eu, e3⟩ => ?_
  subst eu e3
  refine thn (hst.run pins s3 σ H3 (fun o H4 => o = some (-1) ∧ H4 = H3) I3 ⟨1, rfl, -1, rfl, rfl, rfl⟩) fun vs s4 ⟨o, H4, I4, ps, eo, e4⟩ => ?_
  subst eo e4
  have I5 : Inv X pins σ H4 { s4 with heap := s4.heap.push { cls := .type "slice", data := .fields #[vl, vu, vs] } } := I4.kept (t' := s4.toks) fun b ob q => Heap.get?_push_of_some _ q
  obtain ⟨its, r, ht, hz⟩ := I5.tuple hx
  have hlen := r.length
  show wpAny (model X.prog X.w) X.A (subscriptTail e (.Slice none none (some (.UnaryOp .USub (.Constant (.int 1) k p1) p2)) p3) (.ref a) (.ref s4.heap.objs.size)) (EP X pins σ Q) X.xe { s4 with heap := s4.heap.push { cls := .type "slice", data := .fields #[vl, vu, vs] } }
  refine tail_any (ops := [.ref a, .ref s4.heap.objs.size]) ht.typeIs slot_tuple_getitem.lookup ?_ (by with_unfolding_all rfl)
  refine getItem_back ht (Heap.IsSliceOf.new _ vl vu vs) pl pu ps ?_ (by rw [List.size_toArray]; omega)
  refine ⟨.ref _, _, I5.laid (t' := s4.toks) (o := .tup xs.reverse) (fun b ob q => Heap.get?_push_of_some _ q) (Nat.le_refl _) ?_, rfl, q _ (I5.hok.fresh (Nat.le_refl _))⟩
  exact ⟨by rw [List.length_reverse]; exact hz, _, r.reverse, IsTup.new _ _⟩
section
variable {S : Stat} {γ : Gm} {e a b c c2 tg iter : Expr} {d : PyData} {ds es : List PyData} {pos p : Pos}
theorem e_revT {k : Nat} {p1 p2 p3 : Pos} (ha : EJ S γ a (.tuple ds)) : EJ S γ (.Subscript a (.Slice none none (some (.UnaryOp .USub (.Constant (.int 1) k p1) p2)) p3) pos) (.tuple ds.reverse) := fun σ H F at_ Q q =>
  wE_of (t := tRevT S.K (wE S a)) (fun X hX => hX.K ▸ pe_revT (pe_w hX)) (ha σ H F at_ _ fun v H1 F1 a1 x1 dv => by
    cases dv with
    | @tup q1 vs _ h1 h2 =>
    refine ⟨q1, vs, rfl, a1.hf.le.sqT h1, fun p2 hp => ?_⟩
    have x4 : Ex2 S.tabs H1 F1 (upd H1 p2 (.tup vs.reverse)) (upd F1 p2 (.tup vs.reverse)) := ex_new a1.hf hp
    exact q _ _ _ (a1.ex x4 (a1.hf.new hp fun _ z => by cases z)) (x1.trans x4) (.tup (SqT.of upd_same) (h2.zrev.zmono x4.f)))
theorem e_revTT {α : Type} {enc : α → PyData} {xs : List α} {k : Nat} {p1 p2 p3 : Pos} (ha : EJ S γ a (.tuple (xs.map enc))) : EJ S γ (.Subscript a (.Slice none none (some (.UnaryOp .USub (.Constant (.int 1) k p1) p2)) p3) pos) (.tuple (xs.reverse.map enc)) := by
  rw [List.map_reverse]; exact e_revT ha
theorem f_revL {α : Type} {enc : α → PyData} {xs : List α} {k : Nat} {p1 p2 p3 : Pos} (ha : QJ S γ a .l (xs.map enc)) : FJ S γ (.Subscript a (.Slice none none (some (.UnaryOp .USub (.Constant (.int 1) k p1) p2)) p3) pos) (xs.reverse.map enc) := by
  rw [List.map_reverse]; exact f_rev ha

/-! ### sum, max, min of a tuple of ints -/
end
section
variable {prog : Program} {w : World} {A : Around} {E : Value → Shared → Prop} {s : Shared} {l : Addr} {its : List Value} {ns : List Int} {Q : Value → Shared → Prop}
theorem iter_tupW (hh : A.handled = none) {xs : Array (Int × Tok)} (hl : s.heap.IsTuple l (intItems xs)) {R : Value → Shared → Prop}
    (h : ∀ I s2, (∀ b o, s.heap.get? b = some o → s2.heap.get? b = some o) → s2 = { s with heap := s2.heap } → I = s.heap.objs.size → (∀ b ∈ [I, l], b < s2.heap.objs.size) → (s2.heap.IsTupleIter I l 0 ∧ s2.heap.IsTuple l (intItems xs)) → l ≠ I → R (.ref I) s2) : wpAny (model prog w) A (pyIter (.ref l)) R E s := by
  refine wpAny_pyIter_tuple hl ?_
  have hlt : l < s.heap.objs.size := by obtain ⟨o, ho, _⟩ := hl; exact Heap.lt_size ho
  refine h _ _ (fun b o q => Heap.get?_push_of_some _ q) rfl rfl (fun b hb => ?_) ⟨⟨_, Heap.get?_push_size _ rfl, rfl, rfl⟩, hl.push _⟩ (Nat.ne_of_lt hlt)
  show b < (s.heap.push _).objs.size
  rw [Heap.size_push]
  rcases List.mem_cons.mp hb with rfl | hb
  · exact Nat.lt_succ_self _
  · rcases List.mem_cons.mp hb with rfl | hb
    · exact Nat.lt_succ_of_lt hlt
    · cases hb
theorem kept_wr {s s2 : Shared} {h' : Heap} {I : Addr} (hI : I = s.heap.objs.size) (k1 : ∀ b o, s.heap.get? b = some o → s2.heap.get? b = some o) (k : ∀ b o, b ∉ [I] → s2.heap.get? b = some o → h'.get? b = some o) : ∀ b o, s.heap.get? b = some o → h'.get? b = some o := fun b o e =>
  k b o (fun hm => by
    have h1 := Heap.lt_size e
    rw [List.mem_singleton.mp hm, hI] at h1
    exact Nat.lt_irrefl _ h1) (k1 b o e)
theorem sum_tup (hh : A.handled = none) (hl : s.heap.IsTuple l its.toArray) (hi : IntsAre its ns)
    (h : ∀ h' tk t', (∀ b o, s.heap.get? b = some o → h'.get? b = some o) → Q (.int ns.sum t') { s with heap := h', toks := tk }) : wpAny (model prog w) A (call (.builtin "sum") [.ref l]) Q E s := by
  obtain ⟨xs, e⟩ := hi.allInts.items
  have hn : numsOf (intItems xs).toList = ns := by rw [← e]; exact hi.numsOf
  rw [nums_intItems] at hn
  rw [e] at hl
  refine call_sum_walkG (iter_tupW (A := A.in1) hh hl fun I s2 k1 es hI hfp st hne => ?_)
  refine ⟨_, _, _, _, _, _, numAt xs, rfl, Walks.tuple (A := A.in1) hh _ l hne (intItems xs), st, hfp, (fun _ _ => intItems_at), fun h' tk t' hk => ?_⟩
  have := h h' tk t' (kept_wr hI k1 hk)
  rw [es]
  have e9 : preSum (numAt xs) (intItems xs).size = ns.sum := by
    rw [preSum_eq, List.take_of_length_le (by simp [intItems]), hn]
  rw [e9]; exact this
theorem max_tup (hh : A.handled = none) (hl : s.heap.IsTuple l its.toArray) (hi : IntsAre its ns) (hne : 0 < ns.length)
    (h : ∀ h' tk M t', (∀ b o, s.heap.get? b = some o → h'.get? b = some o) → M ∈ ns → (∀ a, a ∈ ns → a ≤ M) → Q (.int M t') { s with heap := h', toks := tk }) : wpAny (model prog w) A (call (.builtin "max") [.ref l]) Q E s := by
  obtain ⟨xs, e⟩ := hi.allInts.items
  have hn : numsOf (intItems xs).toList = ns := by rw [← e]; exact hi.numsOf
  rw [nums_intItems] at hn
  subst hn
  rw [e] at hl
  have hsz : 0 < xs.size := by simpa using hne
  refine call_max_walk (iter_tupW (A := A.in1) hh hl fun I s2 k1 es hI hfp st hne2 => ?_)
  refine ⟨_, _, _, _, _, _, _, rfl, Walks.tuple (A := A.in1) hh _ l hne2 (intItems xs), st, hfp, by simpa [intItems] using hsz, CmpOf.ints_gt (numAt xs) (fun _ _ => intItems_at), fun v h' tk hP hk => ?_⟩
  obtain ⟨t, rfl⟩ := intItems_at hP
  have hs0 : (intItems xs).size - 1 = xs.size - 1 := by simp [intItems]
  rw [hs0]
  obtain ⟨h1, h2⟩ := argBest_gt (numAt xs) (xs.size - 1)
  rw [es]
  refine h h' tk _ t (kept_wr hI k1 hk) ?_ fun a ha => ?_
  · rw [numAt_eq]; exact PySem.getD_mem (by rw [List.length_map, Array.length_toList]; omega)
  · obtain ⟨j, hj, rfl⟩ := mem_getD ha
    rw [List.length_map, Array.length_toList] at hj
    rw [← numAt_eq]; exact h2 j (by omega)
end
section
variable {S : Stat} {γ : Gm} {a : Expr} {pos p : Pos}
def rSumT (K : PySem.W.Frag) : List V → Hp → VK → Prop := fun vs H Q => ∃ (a : Addr) (ns : List Int), vs = [V.ref a] ∧ SqT K H a (ns.map V.int) ∧ Q (.int ns.sum) H
theorem cr_sumT {X : Cx} (hc : X.calm = true) : CallR X (.builtin "sum") (rSumT X.K) := by
  intro pins s σ H vs us Q I r h
  obtain ⟨a, ns, rfl, hs, q⟩ := h
  obtain ⟨its, rv, hl, _⟩ := I.tuple hs
  rw [Vals.ref1 r]
  exact sum_tup (I.ok.hd hc) hl rv.ints fun h' tk t' hk => ⟨.int _, H, I.kept hk, ⟨_, rfl⟩, q⟩
theorem e_sumT {ns : List Int} (hg : IsGl S "sum") (hm : S.mg "sum" = none) (ha : EJ S γ a (.tuple (ns.map .int))) (hs : PlainE a) : EJ S γ (.Call (.Name "sum" p) [a] [] pos) (.int ns.sum) :=
  w_b1 (r := rSumT S.K) (fun X hX => hX.K ▸ cr_sumT hX.calm) hg hm boot_sum hs ha.qt (fun v H0 F0 H F Q at_ x ⟨q, vs, e1, h1, h2⟩ k2 => by
    subst e1
    obtain rfl := DpAll.ints h2
    exact ⟨q, ns, rfl, h1, k2 _ H F at_.hf (Ex2.refl H F) (.int _)⟩) (by decide) (by decide)
def rMaxT (K : PySem.W.Frag) : List V → Hp → VK → Prop := fun vs H Q => ∃ (a : Addr) (ns : List Int), vs = [V.ref a] ∧ SqT K H a (ns.map V.int) ∧ 0 < ns.length ∧ ∀ m, m ∈ ns → (∀ y, y ∈ ns → y ≤ m) → Q (.int m) H
theorem cr_maxT {X : Cx} (hc : X.calm = true) : CallR X (.builtin "max") (rMaxT X.K) := by
  intro pins s σ H vs us Q I r h
  obtain ⟨a, ns, rfl, hs, hne, q⟩ := h
  obtain ⟨its, rv, hl, _⟩ := I.tuple hs
  rw [Vals.ref1 r]
  exact max_tup (I.ok.hd hc) hl rv.ints hne fun h' tk m t' hk h1 h2 => ⟨.int _, H, I.kept hk, ⟨_, rfl⟩, q m h1 h2⟩
theorem e_maxT {ns : List Int} {m : Int} (hg : IsGl S "max") (hm : S.mg "max" = none) (ha : EJ S γ a (.tuple (ns.map .int))) (he : ns.max? = some m) (hs : PlainE a) : EJ S γ (.Call (.Name "max" p) [a] [] pos) (.int m) :=
  w_b1 (r := rMaxT S.K) (fun X hX => hX.K ▸ cr_maxT hX.calm) hg hm boot_max hs ha.qt (fun v H0 F0 H F Q at_ x ⟨q, vs, e1, h1, h2⟩ k2 => by
    subst e1
    obtain rfl := DpAll.ints h2
    obtain ⟨he1, he2⟩ := List.max?_eq_some_iff.mp he
    refine ⟨q, ns, rfl, h1, List.length_pos_of_mem he1, fun m' hm' hle => ?_⟩
    obtain rfl : m' = m := Int.le_antisymm (he2 m' hm') (hle m he1)
    exact k2 _ H F at_.hf (Ex2.refl H F) (.int _)) (by decide) (by decide)
end
end SM

set_option autoImplicit false
set_option Elab.async false
set_option linter.all false
set_option maxRecDepth 100000
set_option maxHeartbeats 4000000
namespace SM
open PySem PySem.Spec PyProof.Rows L2

/-! ### enumerate of a tuple -/
theorem meets_enum1 {v : Value} {o : Obj} {H : Heap → Prop} (B : Begins v o H) :
    Meets (Builtin.«enumerate.__new__» ⟨[.type "enumerate", v], []⟩) (fun _ R s => H s.heap ∧
      R (.ok (.ret (.ref (s.heap.push o).objs.size))) { s with heap := (s.heap.push o).push { cls := .type "enumerate", data := .fields #[.none, .bool false, .ref s.heap.objs.size, rawInt 0, .none, .none] } }) :=
  .of_wp fun prog w A R s h => by
    obtain ⟨hp, g, d, tk, os⟩ := s; obtain ⟨h1, h⟩ := h
    have hsub := sub_enumerate
    have q1 : ∀ {A' : Around} {E : Value → Shared → Prop} {Q : Value → Shared → Prop}, Q (.ref hp.objs.size) ⟨hp.push o, g, d, tk, os⟩ → wpAny (model prog w) A' (pyIter v) Q E ⟨hp, g, d, tk, os⟩ :=
      fun q => B.iter prog w _ _ ⟨hp, g, d, tk, os⟩ _ h1 q
    wp_walk using q1
    refine wpAny_stack_any fun st => wpAny_pure ?_
    split
    · rename_i c _ _ _ _ _
      cases (c == Value.type "enumerate")
      · wp_walk using q1
        exact ⟨_, rfl, h⟩
      · wp_walk using q1
        exact ⟨_, rfl, h⟩
    · wp_walk using q1
      exact ⟨_, rfl, h⟩
theorem call_enum1 {prog : Program} {w : World} {A : Around} {E : Value → Shared → Prop} {s : Shared} {v : Value} {o : Obj} {H : Heap → Prop} {Q : Value → Shared → Prop} (B : Begins v o H) (h1 : H s.heap)
    (h : ∀ h', IsEnum h' (s.heap.objs.size + 1) s.heap.objs.size 0 .none → h'.get? s.heap.objs.size = some o → h'.objs.size = s.heap.objs.size + 2 → (∀ b o, s.heap.get? b = some o → h'.get? b = some o) → Q (.ref (s.heap.objs.size + 1)) { s with heap := h' }) :
    wpAny (model prog w) A (call (.type "enumerate") [v]) Q E s := by
  refine callType_new F.called_enumerate (by decide) (F.typeCall_enumerate_1 _) (F.newCall_enumerate_1 _) (fun obj => F.args_object_init_2 obj _) F.entry_enumerate_new (meets_enum1 B) ⟨h1, ?_⟩
  have hz : (s.heap.push o).objs.size = s.heap.objs.size + 1 := Heap.size_push ..
  show _ ∧ _
  rw [hz]
  have he : IsEnum ((s.heap.push o).push { cls := .type "enumerate", data := .fields #[.none, .bool false, .ref s.heap.objs.size, rawInt 0, .none, .none] }) (s.heap.objs.size + 1) s.heap.objs.size 0 .none := by
    have e := Heap.get?_push_size (s.heap.push o) (o := { cls := .type "enumerate", data := .fields #[.none, .bool false, .ref s.heap.objs.size, rawInt 0, .none, .none] }) rfl
    rw [hz] at e; exact e
  exact ⟨⟨_, he, rfl⟩, h _ he (Heap.get?_push_of_some _ (Heap.get?_push_size _ B.free)) (by rw [Heap.size_push, hz]) fun b u x => Heap.get?_push_of_some _ (Heap.get?_push_of_some _ x)⟩
def IteT (K : PySem.W.Frag) (a : Addr) : It :=
  ⟨fun i H => ∃ (xs : List V) (x : V), SqT K H a xs ∧ xs[i]? = some x, fun i H v H' => ∃ T x, v = .ref T ∧ H T = none ∧ H' = upd H T (.tup [.int (i : Nat), x]) ∧ ∀ xs, SqT K H a xs → xs[i]? = some x, fun i H => ∃ xs : List V, SqT K H a xs ∧ xs.length = i⟩
theorem turn_enumT {P : Program} {w : World} {K : PySem.W.Frag} {elts : List Expr} {kk : Nat} {tpos : Pos} (a e it : Addr) :
    Turn P w K (.Tuple elts kk tpos) (IteT K a) [e, it] e (fun i h => (∃ old, IsEnum h e it ((i : Nat) : Int) old) ∧ h.IsTupleIter it a i ∧ e ≠ it ∧ a ≠ e ∧ a ≠ it) where
  mem := List.mem_cons_self
  obj := fun i h st b hb => by
    obtain ⟨⟨old, he⟩, ⟨o, ho, hc, hd⟩, _⟩ := st
    rcases List.mem_cons.mp hb with z | z
    · rw [z]; exact ⟨_, he, fun v q => nomatch q⟩
    · rw [List.mem_singleton.mp z]; exact ⟨o, ho, fun v q => by rw [hd] at q; cases q⟩
  keep := fun i h h' st k => by
    obtain ⟨⟨old, he⟩, hi, hne⟩ := st
    exact ⟨⟨old, k e List.mem_cons_self _ he⟩, hi.at fun o q => k it (List.mem_cons_of_mem _ List.mem_cons_self) o q, hne⟩
  item := by
    intro X hP hw hK hc i pins s σ H E I hf st hg
    subst hP hw hK
    obtain ⟨⟨old, he⟩, hit, hne, hae, hai⟩ := st
    obtain ⟨xs, x, hq, hx⟩ := hg
    obtain ⟨its, rv, p, hz⟩ := I.tuple hq
    obtain ⟨u, hu, ru⟩ := rv.get hx
    have hlen := rv.length
    have hel : e < s.heap.objs.size := Heap.lt_size he
    have hil : it < s.heap.objs.size := by obtain ⟨_, q, _⟩ := hit; exact Heap.lt_size q
    have hlt : i < its.toArray.size := by
      obtain ⟨h1, _⟩ := List.getElem?_eq_some_iff.mp hu
      rw [List.size_toArray]; exact h1
    refine wpAny_pyNext_enum_itemD (Draws.tuple (A := X.A.in1) (I.ok.hd hc) it a hai its.toArray) he ⟨hit, show s.heap.IsTuple a its.toArray from p⟩ hlt hne (fun z => by
      rcases List.mem_cons.mp z with z | z
      · exact hne z
      · exact hae (List.mem_singleton.mp z).symm) fun y h' tk hy ho hst' hT hsz hk => ?_
    obtain rfl : u = y := by
      have hy' : its.toArray[i]? = some y := hy
      rw [List.getElem?_toArray, hu] at hy'
      exact Option.some.inj hy'
    refine ⟨_, rfl, wpAny_letOwnedTupleGo_enum (s := { s with heap := h', toks := tk + 1 }) ho fun h'' he' sb => ?_⟩
    have hT2 : h''.get? s.heap.objs.size = some { cls := .type "tuple", data := .seq #[.int i tk, u] } := (sb.2 _ (Nat.ne_of_gt hel)).trans hT
    have new : ObjOk X.prog X.w (upd H s.heap.objs.size (.tup [.int (i : Nat), x])) h'' s.heap.objs.size (.tup [.int (i : Nat), x]) :=
      ⟨by show 2 ≤ sizeLine; decide, [.int i tk, u], .cons ⟨_, rfl⟩ (.cons ru .nil), ⟨_, hT2, rfl, _, rfl⟩⟩
    have ch : ∀ b, b ∉ [e, it] → b ≠ e ∧ b ≠ it := fun b hb => ⟨fun z => hb (by rw [z]; exact List.mem_cons_self), fun z => hb (by rw [z]; exact List.mem_cons_of_mem _ List.mem_cons_self)⟩
    have I1 : Inv X pins σ (upd H s.heap.objs.size (.tup [.int (i : Nat), x])) { s with heap := h'', toks := tk + 1 } :=
      I.turnedNew (ch := [e, it]) (fun b ob hb q => (sb.2 b (ch b hb).1).trans (hk b ob (ch b hb).1 (ch b hb).2 q)) hf (Nat.le_refl _) new
    refine ⟨.ref s.heap.objs.size, _, I1, rfl, ⟨_, x, rfl, I.hok.fresh (Nat.le_refl _), rfl, fun ys hy => by rw [I.tuple_inj hy hq]; exact hx⟩, ⟨⟨u, ?_⟩, hst'.1.at fun o q => (sb.2 it (Ne.symm hne)).trans q, hne, hae, hai⟩, fun b hb => ?_⟩
    · have e1 : ((i + 1 : Nat) : Int) = (i : Int) + 1 := by omega
      rw [e1]; exact he'
    · have hb' : b < s.heap.objs.size := by
        rcases List.mem_cons.mp hb with z | z
        · rw [z]; exact hel
        · rw [List.mem_singleton.mp z]; exact hil
      rw [upd_ne (Nat.ne_of_lt hb')]
      exact (hf b hb).1
  done := by
    intro X hP hw hK hc i pins s σ H E I hf st hg
    subst hP hw hK
    obtain ⟨⟨old, he⟩, hit, hne, hae, hai⟩ := st
    obtain ⟨xs, hq, hx⟩ := hg
    obtain ⟨its, rv, p, hz⟩ := I.tuple hq
    obtain ⟨f0, f1, f2, f3, f4, f5⟩ := hf it (List.mem_cons_of_mem _ List.mem_cons_self)
    have hl : i = its.toArray.size := by rw [List.size_toArray, ← rv.length]; exact hx.symm
    have hst2 : s.heap.IsTupleIter it a its.toArray.size ∧ s.heap.IsTuple a its.toArray := ⟨hl ▸ hit, p⟩
    exact wpAny_pyNext_enum_endD (Draws.tuple (A := X.A.in1) (I.ok.hd hc) it a hai its.toArray) he hst2 fun h' eb => ⟨rfl, I.turned (t' := s.toks) (fun b o hb q => eb b o hb q) f0 f1 f3 f4 f5⟩
  self := fun A i s Q E st h => by
    obtain ⟨⟨_, he⟩, _⟩ := st
    exact wpAny_pyIter_enum he h

def iEnumT (K : PySem.W.Frag) (ta : TA) : TI := fun σ H R => ta σ H fun vs H1 => ∃ a xs, vs = [.ref a] ∧ SqT K H1 a xs ∧ R (IteT K a) H1
theorem pi_enumT {X : Cx} {e : Expr} {ta : TA} {p pos tpos : Pos} {elts : List Expr} {kk : Nat} (hg : Gl X "enumerate") (hm : X.mg "enumerate" = none) (ha : PA X [e] ta) (hs : starEach [e] X.env = [(false, eval e X.env)]) :
    PI X (.Tuple elts kk tpos) (.Call (.Name "enumerate" p) [e] [] pos) (iEnumT X.K ta) := by
  refine ⟨fun pins s σ H R I h => Call_ (ld_blt I hg hm boot_enumerate (PyProof.Rows.callWith_type1 (thn (ha.run pos pins s σ H _ I h) fun us s1 ⟨vs, H1, I1, r1, q1⟩ => ?_) hs rfl))⟩
  obtain ⟨a, xs, rfl, hq, q⟩ := q1
  obtain ⟨u, rfl, r⟩ := vals1 r1
  cases r
  obtain ⟨its, rv, p', hz⟩ := I1.tuple hq
  have hal : a < s1.heap.objs.size := p'.lt
  refine call_enum1 (begins_tuple a its.toArray) (show s1.heap.IsTuple a its.toArray from p') fun h' he hit hsz hk => wpAny_pyIter_enum he ?_
  have I2 : Inv X pins σ H1 { s1 with heap := h' } := I1.kept (t' := s1.toks) hk
  refine ⟨s1.heap.objs.size + 1, [s1.heap.objs.size + 1, s1.heap.objs.size], _, _, H1, rfl, I2, turn_enumT a (s1.heap.objs.size + 1) s1.heap.objs.size,
    ⟨⟨.none, he⟩, ⟨_, hit, rfl, rfl⟩, Nat.succ_ne_self _, Nat.ne_of_lt (Nat.lt_succ_of_lt hal), Nat.ne_of_lt hal⟩, fun b hb => ?_, q⟩
  have hle : s1.heap.objs.size ≤ b := by
    rcases List.mem_cons.mp hb with z | z
    · rw [z]; exact Nat.le_add_right _ _
    · rw [List.mem_singleton.mp z]; exact Nat.le_refl _
  exact I1.fpOk hle (I1.hok.fresh hle)
theorem walk_enumT {K : PySem.W.Frag} {a : Addr} {xs : List V} : Walk (IteT K a) xs.length (fun H => SqT K H a xs) (YPair (fun i => some (.int (i : Nat))) (fun i => xs[i]?)) := by
  refine ⟨fun i _ hi q => ⟨xs, xs[i], q, List.getElem?_eq_getElem hi⟩, fun _ q => ⟨xs, q, rfl⟩, fun i H v H' _ q y => ?_⟩
  obtain ⟨T, x, h1, h2, h3, h4⟩ := y
  exact ⟨T, .int (i : Nat), x, h1, h2, h3, rfl, h4 xs q⟩
/-! ### what is walked, further -/
def enumD (ds : List PyData) : List PyData := ds.mapIdx fun i d => .tuple [.int (i : Int), d]
theorem enumD_len (ds : List PyData) : (enumD ds).length = ds.length := List.length_mapIdx
section
variable {S : Stat} {γ : Gm} {tg iter a b : Expr} {d : PyData} {ds es items : List PyData} {pos p tpos : Pos} {elts : List Expr} {kk : Nat}
theorem yd_enum {K : PySem.W.Frag} {F : Hp} {vs : List V} (h : DpAll K F vs ds) : ∀ i H x H', i < ds.length → YPair (fun i => some (.int (i : Nat))) (fun i => vs[i]?) i H x H' → YD K F (enumD ds) i H x H' := fun i H x H' hi ⟨T, u, v, e1, e2, e3, e4, e5⟩ => by
  obtain ⟨d, h1, h2⟩ := h.zget' e5
  have e4' : u = .int (i : Nat) := (Option.some.inj e4).symm
  refine ⟨.tuple [.int (i : Int), d], ?_, .inr ⟨T, [u, v], [.int (i : Int), d], e2, e3, e1, rfl, .cons ?_ (.cons h2 .nil)⟩⟩
  · unfold enumD; rw [List.getElem?_mapIdx, h1]; rfl
  · rw [e4']; exact .int _
theorem i_enumL (hg : IsGl S "enumerate") (hm : S.mg "enumerate" = none) (h : QJ S γ a .l ds) (hs : PlainE a) : IX S γ (.Tuple elts kk tpos) (.Call (.Name "enumerate" p) [a] [] pos) (enumD ds) := fun σ H F at_ R q =>
  wI_of (t := iEnum S.K (tCons (wE S a) tNil)) (fun X hX => hX.K ▸ pi_enum (hX.gl hg) (hX.mgn hm) (pa_cons (pe_w hX) pa_nil (hs [] X.env)) (hs [] X.env)) (h.sz σ H F at_ _ fun v H1 F1 a1 x1 ⟨⟨q1, vs, e1, h1, h2⟩, sz⟩ => by
    subst e1
    refine ⟨q1, vs, rfl, h1, q _ H1 F1 a1 x1 (by rw [enumD_len, ← h2.zlen]; exact sz q1 vs .l h1) ?_⟩
    rw [enumD_len, ← h2.zlen]
    exact walk_enum.mono (fun H' e => SqX.ext (k := .l) e h1) (by rw [h2.zlen]; exact fun i H x H' hi _ y => yd_enum h2 i H x H' hi y))
theorem i_enumS (hg : IsGl S "enumerate") (hm : S.mg "enumerate" = none) (h : EJ S γ a (.list ds)) (hs : PlainE a) : IF S γ (.Tuple elts kk tpos) (.Call (.Name "enumerate" p) [a] [] pos) (enumD ds) := fun σ H F at_ R q =>
  wI_of (t := iEnum S.K (tCons (wE S a) tNil)) (fun X hX => hX.K ▸ pi_enum (hX.gl hg) (hX.mgn hm) (pa_cons (pe_w hX) pa_nil (hs [] X.env)) (hs [] X.env)) (h.sz σ H F at_ _ fun v H1 F1 a1 x1 ⟨dv, sz⟩ => by
    cases dv with
    | @lst q1 vs _ h1 h2 =>
    refine ⟨q1, vs, rfl, a1.hf.le.sqL h1, q _ H1 F1 a1 x1 (by rw [enumD_len, ← h2.zlen]; exact sz q1 vs .l (a1.hf.le.sqL h1)) ?_⟩
    rw [enumD_len, ← h2.zlen]
    exact walk_enum.mono (fun H' e => e.sqL h1) (by rw [h2.zlen]; exact fun i H x H' hi _ y => yd_enum h2 i H x H' hi y))
theorem i_enumT (hg : IsGl S "enumerate") (hm : S.mg "enumerate" = none) (h : EJ S γ a (.tuple ds)) (hs : PlainE a) : IF S γ (.Tuple elts kk tpos) (.Call (.Name "enumerate" p) [a] [] pos) (enumD ds) := fun σ H F at_ R q =>
  wI_of (t := iEnumT S.K (tCons (wE S a) tNil)) (fun X hX => hX.K ▸ pi_enumT (hX.gl hg) (hX.mgn hm) (pa_cons (pe_w hX) pa_nil (hs [] X.env)) (hs [] X.env)) (h.sz σ H F at_ _ fun v H1 F1 a1 x1 ⟨dv, sz⟩ => by
    cases dv with
    | @tup q1 vs _ h1 h2 =>
    refine ⟨q1, vs, rfl, a1.hf.le.sqT h1, q _ H1 F1 a1 x1 (by rw [enumD_len, ← h2.zlen]; exact sz q1 vs .t (a1.hf.le.sqT h1)) ?_⟩
    rw [enumD_len, ← h2.zlen]
    exact walk_enumT.mono (fun H' e => e.sqT h1) (by rw [h2.zlen]; exact fun i H x H' hi _ y => yd_enum h2 i H x H' hi y))
/-- zip of two tuples -/
def zipD (ds es : List PyData) : List PyData := (ds.zip es).map fun p => .tuple [p.1, p.2]
theorem zipD_len (ds es : List PyData) : (zipD ds es).length = min ds.length es.length := by unfold zipD; rw [List.length_map, List.length_zip]
theorem yd_zip {K : PySem.W.Frag} {F : Hp} {vs us : List V} (h : DpAll K F vs ds) (h' : DpAll K F us es) : ∀ i H x H', YPair (fun i => vs[i]?) (fun i => us[i]?) i H x H' → YD K F (zipD ds es) i H x H' := fun i H x H' ⟨T, u, v, e1, e2, e3, e4, e5⟩ => by
  obtain ⟨d, h1, h2⟩ := h.zget' e4
  obtain ⟨d', h3, h4⟩ := h'.zget' e5
  refine ⟨.tuple [d, d'], ?_, .inr ⟨T, [u, v], [d, d'], e2, e3, e1, rfl, .cons h2 (.cons h4 .nil)⟩⟩
  unfold zipD
  rw [List.getElem?_map, (List.getElem?_zip_eq_some (z := (d, d'))).mpr ⟨h1, h3⟩]
  rfl
theorem walk_zipT {K : PySem.W.Frag} {a b : Addr} {xs ys : List V} {n : Nat} (hn : n = min xs.length ys.length) : Walk (RZ.ItzT K a b) n (fun H => SqT K H a xs ∧ SqT K H b ys) (YPair (fun i => xs[i]?) (fun i => ys[i]?)) := by
  subst hn
  refine ⟨fun i _ hi q => ?_, fun _ q => ⟨xs, ys, q.1, q.2, by omega⟩, fun i H v H' _ q y => ?_⟩
  · have h1 : i < xs.length := by omega
    have h2 : i < ys.length := by omega
    exact ⟨xs, ys, xs[i], ys[i], q.1, q.2, List.getElem?_eq_getElem h1, List.getElem?_eq_getElem h2⟩
  · obtain ⟨T, x, z, h1, h2, h3, h4, h5⟩ := y
    exact ⟨T, x, z, h1, h2, h3, h4 xs q.1, h5 ys q.2⟩
theorem i_zipT (hg : IsGl S "zip") (hm : S.mg "zip" = none) (ha : EJ S γ a (.tuple ds)) (hb : EJ S γ b (.tuple es)) (hs : PlainE a) (hs2 : PlainE b) (hpl : ∀ X : Cx, (backTo pos (starEach [b] X.env)).any (·.1) = false) : IF S γ (.Tuple elts kk tpos) (.Call (.Name "zip" p) [a, b] [] pos) (zipD ds es) := fun σ H F at_ R q =>
  wI_of (t := RZ.iZipA S.K (tCons (wE S a) (tCons (wE S b) tNil))) (fun X hX => hX.K ▸ RZ.pi_zipA (hX.gl hg) (hX.mgn hm) (pa_cons (pe_w hX) (pa_cons (pe_w hX) pa_nil (hs2 [] X.env)) (hs [b] X.env)) (hs [b] X.env) (hpl X)) (ha.sz σ H F at_ _ fun v H1 F1 a1 x1 ⟨dv, sz⟩ => hb σ H1 F1 a1 _ fun u H2 F2 a2 x2 du => by
    cases dv with
    | @tup q1 vs _ h1 h2 =>
    cases du with
    | @tup q2 us _ k1 k2 =>
    have h1' := x2.f.sqT h1
    refine ⟨q1, q2, vs, us, rfl, .inr ⟨a2.hf.le.sqT h1', a2.hf.le.sqT k1, q _ H2 F2 a2 (x1.trans x2) ?_ ?_⟩⟩
    · rw [zipD_len, ← h2.zlen]
      exact Nat.le_trans (Nat.min_le_left _ _) (sz q1 vs .t (a1.hf.le.sqT h1))
    · exact (walk_zipT (xs := vs) (ys := us) (by rw [zipD_len, h2.zlen, k2.zlen])).mono (fun H' e => ⟨e.sqT h1', e.sqT k1⟩) fun i H x H' hi _ y => yd_zip (h2.zmono x2.f) k2 i H x H' y)
end

/-! ### a < b < c < d -/
section
variable {S : Stat} {γ : Gm} {a b c e : Expr} {pos : Pos}
theorem pe_chain3 {X : Cx} {op1 op2 op3 : CmpOp} {g1 g2 g3 : Int → Int → Bool} (ho1 : OpR X (compareOp op1) (rI0 fun i j => .bl (g1 i j))) (ho2 : OpR X (compareOp op2) (rI0 fun i j => .bl (g2 i j))) (ho3 : OpR X (compareOp op3) (rI0 fun i j => .bl (g3 i j))) {ta tb tc te : TE} (ha : PE X a ta) (hb : PE X b tb) (hc : PE X c tc) (he : PE X e te)
    (hm : lastMarks [op1, op2, op3] [b, c, e] = false) : PT X (.Compare a [op1, op2, op3] [b, c, e] pos) (fun σ H Q => ta σ H fun x H1 => tb σ H1 fun y H2 => ∃ i j, x = .int i ∧ y = .int j ∧
      if g1 i j = true then tc σ H2 fun z H3 => ∃ k, z = .int k ∧ if g2 j k = true then te σ H3 fun u H4 => ∃ l, u = .int l ∧ Q (g3 k l) H4 else Q false H3 else Q false H2) := by
  refine ⟨fun pins s σ H Q I h => ?_⟩
  refine isTrue_chain (thn (ha.run pins s σ H _ I h) fun v s1 ⟨x, H1, I1, r1, q1⟩ => test_link (thn (hb.run pins s1 σ H1 _ I1 q1) fun u s2 ⟨y, H2, I2, r2, i, j, ei, ej, q2⟩ => ?_)) hm
  subst ei; subst ej
  refine thn (ho1 pins s2 σ H2 _ _ v u (fun d H' => d = .bl (g1 i j) ∧ H' = H2) I2 r1 r2 ⟨i, j, rfl, rfl, rfl, rfl⟩) fun d s3 ⟨z, H3, I3, r3, ez, eh⟩ => ?_
  subst ez; subst eh
  cases r3
  refine wpAny_truthy_bool ?_
  cases hg1 : g1 i j with
  | false => rw [hg1, if_neg Bool.false_ne_true] at q2; exact ite_ff ⟨H3, I3, q2⟩
  | true =>
    rw [hg1, if_pos rfl] at q2
    refine ite_tt (test_link (thn (hc.run pins s3 σ H3 _ I3 q2) fun w' s4 ⟨z', H4, I4, r4, k, ek, q4⟩ => ?_))
    subst ek
    refine thn (ho2 pins s4 σ H4 _ _ u w' (fun d H' => d = .bl (g2 j k) ∧ H' = H4) I4 r2 r4 ⟨j, k, rfl, rfl, rfl, rfl⟩) fun d s5 ⟨z5, H5, I5, r5, ez, eh⟩ => ?_
    subst ez; subst eh
    cases r5
    refine wpAny_truthy_bool ?_
    cases hg2 : g2 j k with
    | false => rw [hg2, if_neg Bool.false_ne_true] at q4; exact ite_ff ⟨H5, I5, q4⟩
    | true =>
      rw [hg2, if_pos rfl] at q4
      refine ite_tt (test_last (thn (he.run pins s5 σ H5 _ I5 q4) fun w6 s6 ⟨z6, H6, I6, r6, l, el, q6⟩ => ?_))
      subst el
      refine thn (ho3 pins s6 σ H6 _ _ w' w6 (fun d H' => d = .bl (g3 k l) ∧ H' = H6) I6 r4 r6 ⟨k, l, rfl, rfl, rfl, rfl⟩) fun d s7 ⟨z7, H7, I7, r7, ez, eh⟩ => ?_
      subst ez; subst eh
      cases r7
      exact wpAny_truthy_bool ⟨H7, I7, q6⟩
theorem t_chain3 {op1 op2 op3 : CmpOp} {g1 g2 g3 : Int → Int → Bool} {x y z u : Int} (ho1 : ∀ X : Cx, OpR X (compareOp op1) (rI0 fun i j => .bl (g1 i j))) (ho2 : ∀ X : Cx, OpR X (compareOp op2) (rI0 fun i j => .bl (g2 i j))) (ho3 : ∀ X : Cx, OpR X (compareOp op3) (rI0 fun i j => .bl (g3 i j)))
    (ha : EJ S γ a (.int x)) (hb : EJ S γ b (.int y)) (hc : EJ S γ c (.int z)) (he : EJ S γ e (.int u)) (hm : lastMarks [op1, op2, op3] [b, c, e] = false) : TJ S γ (.Compare a [op1, op2, op3] [b, c, e] pos) (g1 x y && (g2 y z && g3 z u)) := fun σ H F at_ Q q =>
  wT_of (fun X hX => pe_chain3 (ho1 X) (ho2 X) (ho3 X) (pe_w hX) (pe_w hX) (pe_w hX) (pe_w hX) hm) (ha σ H F at_ _ fun v H1 F1 a1 x1 d1 => hb σ H1 F1 a1 _ fun w H2 F2 a2 x2 d2 => by
    cases d1; cases d2
    refine ⟨x, y, rfl, rfl, ?_⟩
    cases h1 : g1 x y with
    | false => rw [if_neg Bool.false_ne_true]; rw [h1] at q; exact q H2 F2 a2 (x1.trans x2)
    | true =>
      rw [if_pos rfl]
      refine hc σ H2 F2 a2 _ fun v3 H3 F3 a3 x3 d3 => ?_
      cases d3
      refine ⟨z, rfl, ?_⟩
      cases h2 : g2 y z with
      | false => rw [if_neg Bool.false_ne_true]; rw [h1, h2] at q; exact q H3 F3 a3 ((x1.trans x2).trans x3)
      | true =>
        rw [if_pos rfl]
        refine he σ H3 F3 a3 _ fun v4 H4 F4 a4 x4 d4 => ?_
        cases d4
        rw [h1, h2] at q
        exact ⟨u, rfl, q H4 F4 a4 (((x1.trans x2).trans x3).trans x4)⟩)
end
end SM

set_option autoImplicit false
set_option Elab.async false
set_option linter.all false
set_option maxRecDepth 100000
set_option maxHeartbeats 4000000
namespace SM
open PySem PySem.Spec PyProof.Rows L2

/-! ### the data of typed values -/
abbrev eI : Int → PyData := PyData.int
abbrev eB : Bool → PyData := PyData.bool
abbrev eS : Str → PyData := PyData.str
abbrev eN : Unit → PyData := fun _ => .none
abbrev eD : PyData → PyData := fun d => d
abbrev eL {α : Type} (e : α → PyData) (xs : List α) : PyData := .list (xs.map e)
abbrev eT {α : Type} (e : α → PyData) (xs : List α) : PyData := .tuple (xs.map e)
abbrev eO {α : Type} (e : α → PyData) : Option α → PyData
  | none => .none
  | some x => e x
abbrev eP2 {α β : Type} (e1 : α → PyData) (e2 : β → PyData) (p : α × β) : PyData := .tuple [e1 p.1, e2 p.2]
abbrev eP3 {α β γ : Type} (e1 : α → PyData) (e2 : β → PyData) (e3 : γ → PyData) (p : α × β × γ) : PyData := .tuple [e1 p.1, e2 p.2.1, e3 p.2.2]
abbrev eP4 {α β γ δ : Type} (e1 : α → PyData) (e2 : β → PyData) (e3 : γ → PyData) (e4 : δ → PyData) (p : α × β × γ × δ) : PyData := .tuple [e1 p.1, e2 p.2.1, e3 p.2.2.1, e4 p.2.2.2]
theorem isN_oT {α : Type} {e : α → PyData} {x : Option (List α)} : isN (eO (eT e) x) = x.isNone := by cases x <;> rfl
theorem isN_oL {α : Type} {e : α → PyData} {x : Option (List α)} : isN (eO (eL e) x) = x.isNone := by cases x <;> rfl
theorem isN_oI {x : Option Int} : isN (eO eI x) = x.isNone := by cases x <;> rfl
theorem isN_oP2 {α β : Type} {e1 : α → PyData} {e2 : β → PyData} {x : Option (α × β)} : isN (eO (eP2 e1 e2) x) = x.isNone := by cases x <;> rfl
theorem isN_oP3 {α β γ : Type} {e1 : α → PyData} {e2 : β → PyData} {e3 : γ → PyData} {x : Option (α × β × γ)} : isN (eO (eP3 e1 e2 e3) x) = x.isNone := by cases x <;> rfl
theorem isN_oP4 {α β γ δ : Type} {e1 : α → PyData} {e2 : β → PyData} {e3 : γ → PyData} {e4 : δ → PyData} {x : Option (α × β × γ × δ)} : isN (eO (eP4 e1 e2 e3 e4) x) = x.isNone := by cases x <;> rfl

/-! ### what may fail -/
def mulO (x y : Int) : Option Int := if (-2 ^ 64 < x ∧ x < 2 ^ 64) ∨ (-2 ^ 64 < y ∧ y < 2 ^ 64) then some (x * y) else none
theorem mulO_c {x y z : Int} (h : mulO x y = some z) : CMul x y ∧ x * y = z := by
  unfold mulO at h
  split at h
  · exact ⟨by assumption, Option.some.inj h⟩
  · cases h
def fdivO (x y : Int) : Option Int := if 0 < y ∧ y < 1073741824 then some (x / y) else none
theorem fdivO_c {x y z : Int} (h : fdivO x y = some z) : CDiv x y ∧ x / y = z := by
  unfold fdivO at h
  split at h
  · exact ⟨by assumption, Option.some.inj h⟩
  · cases h
def modO (x y : Int) : Option Int := if 0 < y then some (x % y) else none
theorem modO_c {x y z : Int} (h : modO x y = some z) : 0 < y ∧ x % y = z := by
  unfold modO at h
  split at h
  · exact ⟨by assumption, Option.some.inj h⟩
  · cases h
def powO (x y : Int) : Option Int := if 0 ≤ y ∧ y ≤ 1000000 ∧ x.natAbs < 2 ^ 64 then some (x ^ y.toNat) else none
theorem powO_c {x y z : Int} (h : powO x y = some z) : CPow x y ∧ x ^ y.toNat = z := by
  unfold powO at h
  split at h
  · exact ⟨by assumption, Option.some.inj h⟩
  · cases h
def catO {α : Type} (xs ys : List α) : Option (List α) := if xs.length + ys.length ≤ 16777216 then some (xs ++ ys) else none
theorem catO_c {α : Type} {xs ys zs : List α} (h : catO xs ys = some zs) : xs.length + ys.length ≤ sizeLine ∧ xs ++ ys = zs := by
  unfold catO at h
  split at h
  · exact ⟨by assumption, Option.some.inj h⟩
  · cases h
def appO {α : Type} (xs : List α) (x : α) : Option (List α) := if xs.length < 16777216 then some (xs ++ [x]) else none
theorem appO_c {α : Type} {xs zs : List α} {x : α} (h : appO xs x = some zs) : xs.length < sizeLine ∧ xs ++ [x] = zs := by
  unfold appO at h
  split at h
  · exact ⟨by assumption, Option.some.inj h⟩
  · cases h
def repO {α : Type} (x : α) (n : Int) : Option (List α) := if n ≤ 16777216 ∧ -16777216 ≤ n then some (List.replicate n.toNat x) else none
theorem repO_c {α : Type} {x : α} {n : Int} {zs : List α} (h : repO x n = some zs) : (n ≤ 16777216 ∧ -16777216 ≤ n) ∧ List.replicate n.toNat x = zs := by
  unfold repO at h
  split at h
  · exact ⟨by assumption, Option.some.inj h⟩
  · cases h
def rngO (lo hi : Int) : Option (List Int) := if -8388608 ≤ lo ∧ lo ≤ 8388608 ∧ -8388608 ≤ hi ∧ hi ≤ 8388608 then some (rng lo hi) else none
theorem rngO_c {lo hi : Int} {xs : List Int} (h : rngO lo hi = some xs) : RgB lo hi ∧ rng lo hi = xs := by
  unfold rngO at h
  split at h
  · exact ⟨by assumption, Option.some.inj h⟩
  · cases h
def andO (x y : Option Bool) : Option Bool := x.bind fun k => if k = true then y else some false
def orO (x y : Option Bool) : Option Bool := x.bind fun k => if k = true then some true else y
def enumI {α : Type} (xs : List α) : List (Int × α) := xs.mapIdx fun i x => ((i : Int), x)
theorem enumD_map {α : Type} {e : α → PyData} {xs : List α} : enumD (xs.map e) = (enumI xs).map (eP2 eI e) := by
  unfold enumD enumI
  apply List.ext_getElem?
  intro i
  simp only [List.getElem?_mapIdx, List.getElem?_map]
  cases xs[i]? <;> rfl
theorem zipD_map {α β : Type} {e1 : α → PyData} {e2 : β → PyData} {xs : List α} {ys : List β} : zipD (xs.map e1) (ys.map e2) = (xs.zip ys).map (eP2 e1 e2) := by
  unfold zipD
  rw [List.zip_map, List.map_map]
  rfl
section
variable {S : Stat} {γ : Gm} {a b c e tg iter : Expr} {rest es : List Expr} {pos p : Pos} {d : PyData} {ds : List PyData} {k : SK} {α β τ : Type} {enc : α → PyData}
theorem e_mulO {x y z : Int} (ha : EJ S γ a (.int x)) (hb : EJ S γ b (.int y)) (h : mulO x y = some z) : EJ S γ (.BinOp a .Mult b pos) (.int z) := by
  obtain ⟨h1, h2⟩ := mulO_c h
  subst h2; exact e_mul ha hb h1
theorem e_fdivO {x y z : Int} (ha : EJ S γ a (.int x)) (hb : EJ S γ b (.int y)) (h : fdivO x y = some z) : EJ S γ (.BinOp a .FloorDiv b pos) (.int z) := by
  obtain ⟨h1, h2⟩ := fdivO_c h
  subst h2; exact e_fdiv ha hb h1
theorem e_modO {x y z : Int} (ha : EJ S γ a (.int x)) (hb : EJ S γ b (.int y)) (h : modO x y = some z) : EJ S γ (.BinOp a .Mod b pos) (.int z) := by
  obtain ⟨h1, h2⟩ := modO_c h
  subst h2; exact e_mod ha hb h1
theorem e_powO {x y z : Int} (ha : EJ S γ a (.int x)) (hb : EJ S γ b (.int y)) (h : powO x y = some z) : EJ S γ (.BinOp a .Pow b pos) (.int z) := by
  obtain ⟨h1, h2⟩ := powO_c h
  subst h2; exact e_pow ha hb h1
theorem f_catO {xs ys zs : List α} (ha : QJ S γ a .l (xs.map enc)) (hb : QJ S γ b .l (ys.map enc)) (h : catO xs ys = some zs) : FJ S γ (.BinOp a .Add b pos) (zs.map enc) := by
  obtain ⟨h1, h2⟩ := catO_c h
  subst h2; exact f_catT ha hb h1
theorem e_catO {xs ys zs : List α} (ha : EJ S γ a (.tuple (xs.map enc))) (hb : EJ S γ b (.tuple (ys.map enc))) (h : catO xs ys = some zs) : EJ S γ (.BinOp a .Add b pos) (.tuple (zs.map enc)) := by
  obtain ⟨h1, h2⟩ := catO_c h
  subst h2; exact e_catTT ha hb h1
theorem f_repO {x : α} {n : Int} {zs : List α} (ha : FJ S γ a [enc x]) (hb : EJ S γ b (.int n)) (h : repO x n = some zs) : FJ S γ (.BinOp a .Mult b pos) (zs.map enc) := by
  obtain ⟨h1, h2⟩ := repO_c h
  subst h2
  rw [List.map_replicate]
  exact f_rep ha hb h1.1 h1.2
theorem i_range1O {y : Int} {xs : List Int} (hg : IsGl S "range") (hm : S.mg "range" = none) (ha : EJ S γ a (.int y)) (hs : PlainE a) (h : rngO 0 y = some xs) : IF S γ tg (.Call (.Name "range" p) [a] [] pos) (xs.map eI) := by
  obtain ⟨h1, h2⟩ := rngO_c h
  subst h2; exact i_range1 hg hm ha hs h1
theorem i_range2O {x y : Int} {xs : List Int} (hg : IsGl S "range") (hm : S.mg "range" = none) (ha : EJ S γ a (.int x)) (hb : EJ S γ b (.int y)) (hs : PlainE a) (hs2 : PlainE b) (h : rngO x y = some xs) : IF S γ tg (.Call (.Name "range" p) [a, b] [] pos) (xs.map eI) := by
  obtain ⟨h1, h2⟩ := rngO_c h
  subst h2; exact i_range2 hg hm ha hb hs hs2 h1
theorem FJ.of {ds' : List PyData} (h : FJ S γ e ds) (e1 : ds = ds') : FJ S γ e ds' := e1 ▸ h
theorem QJ.of {ds' : List PyData} (h : QJ S γ e k ds) (e1 : ds = ds') : QJ S γ e k ds' := e1 ▸ h
theorem IW.of {G : Hp → Hp → Hp → Prop} {ds' : List PyData} (h : IW G S γ tg iter ds) (e1 : ds = ds') : IW G S γ tg iter ds' := e1 ▸ h
theorem TJ.of {k k' : Bool} (h : TJ S γ e k) (e1 : k = k') : TJ S γ e k' := e1 ▸ h
/-- an Option that is there -/
theorem EJ.some {o : Option α} {x : α} (h : EJ S γ e (eO enc o)) (e1 : o = some x) : EJ S γ e (enc x) := by subst e1; exact h
theorem EJ.into {x : α} (h : EJ S γ e (enc x)) : EJ S γ e (eO enc (Option.some x)) := h
/-! tests that may fail -/
def TOp (S : Stat) (γ : Gm) (e : Expr) (o : Option Bool) : Prop := ∀ k, o = some k → TJ S γ e k
def WOp (S : Stat) (γ : Gm) (e : Expr) (o : Option Bool) : Prop := ∀ k, o = some k → WJ S γ e k
theorem to_some {k : Bool} (h : TJ S γ a k) : TOp S γ a (some k) := fun y hy => by cases hy; exact h
theorem to_bind {o : Option τ} {f : τ → Option Bool} (h : ∀ t, o = some t → TOp S γ a (f t)) : TOp S γ a (o.bind f) := fun y hy => by
  obtain ⟨t, h1, h2⟩ := Option.bind_eq_some_iff.mp hy
  exact h t h1 y h2
theorem to_w {o : Option Bool} (h : WOp S γ a o) : TOp S γ a o := fun y hy => t_w (h y hy)
theorem to_not {o : Option Bool} (h : TOp S γ a o) : TOp S γ (.UnaryOp .Not a pos) (o.map not) := fun y hy => by
  cases o with
  | none => cases hy
  | some k => cases hy; exact t_not (h k rfl)
theorem wo_and1 {o : Option Bool} (h : TOp S γ a o) : WOp S γ (.BoolOp .And [a] pos) o := fun y hy => w_and1 (h y hy)
theorem wo_or1 {o : Option Bool} (h : TOp S γ a o) : WOp S γ (.BoolOp .Or [a] pos) o := fun y hy => w_or1 (h y hy)
theorem wo_and {o o2 : Option Bool} (h : TOp S γ a o) (h2 : o = some true → WOp S γ (.BoolOp .And (b :: rest) pos) o2) : WOp S γ (.BoolOp .And (a :: b :: rest) pos) (andO o o2) := fun y hy => by
  cases o with
  | none => cases hy
  | some k =>
    cases k with
    | true =>
      have hy : o2 = some y := hy
      exact w_and (k := true) (h true rfl) fun _ => h2 rfl y hy
    | false =>
      cases hy
      exact w_and (k := false) (l := true) (h false rfl) fun z => by cases z
theorem wo_or {o o2 : Option Bool} (h : TOp S γ a o) (h2 : o = some false → WOp S γ (.BoolOp .Or (b :: rest) pos) o2) : WOp S γ (.BoolOp .Or (a :: b :: rest) pos) (orO o o2) := fun y hy => by
  cases o with
  | none => cases hy
  | some k =>
    cases k with
    | true =>
      cases hy
      exact w_or (k := true) (l := true) (h true rfl) fun z => by cases z
    | false =>
      have hy : o2 = some y := hy
      have := w_or (k := false) (l := y) (pos := pos) (h false rfl) fun _ => h2 rfl y hy
      rwa [Bool.false_or] at this
theorem eo_one {op : BoolOp} {o : Option Bool} (h : EO S γ a eB o) : EO S γ (.BoolOp op [a] pos) eB o := fun y hy => e_one (h y hy)
theorem eo_and {o o2 : Option Bool} (h : EO S γ a eB o) (h2 : o = some true → EO S γ (.BoolOp .And (b :: rest) pos) eB o2) : EO S γ (.BoolOp .And (a :: b :: rest) pos) eB (andO o o2) := fun y hy => by
  cases o with
  | none => cases hy
  | some k =>
    cases k with
    | true =>
      have hy : o2 = some y := hy
      exact e_and (k := true) (h true rfl) fun _ => h2 rfl y hy
    | false =>
      cases hy
      exact e_and (k := false) (l := true) (h false rfl) fun z => by cases z
theorem eo_or {o o2 : Option Bool} (h : EO S γ a eB o) (h2 : o = some false → EO S γ (.BoolOp .Or (b :: rest) pos) eB o2) : EO S γ (.BoolOp .Or (a :: b :: rest) pos) eB (orO o o2) := fun y hy => by
  cases o with
  | none => cases hy
  | some k =>
    cases k with
    | true =>
      cases hy
      exact e_or (k := true) (l := true) (h true rfl) fun z => by cases z
    | false =>
      have hy : o2 = some y := hy
      have := e_or (k := false) (l := y) (pos := pos) (h false rfl) fun _ => h2 rfl y hy
      rw [Bool.false_or] at this
      exact this
theorem TOp.elim {o : Option Bool} {x : Bool} (h : TOp S γ e o) (hx : o = some x) : TJ S γ e x := h x hx
theorem j_appO {ss : List Stmt} {post : β → Post} {o : Option β} {xs zs : List α} {v : α} {x : Str} {j : Nat} {pa pc pn : Pos} (hN : S.N[j]? = some x) (hv : Vis S.sc x) (hg : γ[j]? = some (.ow (.list (xs.map enc)))) (h : EJ S γ e (enc v)) (hz : appO xs v = some zs) (hs : PlainE e) (hd : (x == ("__debug__" : Str)) = false) (hcd : (x == ("__classdict__" : Str)) = false)
    (hba : ∀ X : Cx, attributeBase (.Name x pn) "append" X.env (eval (.Name x pn) X.env) = eval (.Name x pn) X.env) (hli : (pa.endLine == pc.line) = true) (hr : J S (γ.set j (.ow (.list (zs.map enc)))) ss post o) : J S γ (.Expr (.Call (.Attribute (.Name x pn) "append" pa) [e] [] pc) pos :: ss) post o := by
  obtain ⟨h1, h2⟩ := appO_c hz
  subst h2
  exact j_app hN hv hg h h1 hs hd hcd hba hli hr
theorem j_to {γ2 : Gm} {ss : List Stmt} {post : β → Post} {o : Option β} (w : γ = γ2) (h : J S γ2 ss post o) : J S γ ss post o := w ▸ h
end

/-! ### defs that are known -/
def Known (P : Program) (w : World) (K : PySem.W.Frag) (mg : Str → Option Value) (base : Heap) (tabs : Tbs) (lv : Nat) (x : Str) (n : Nat) (R : List PyData → PyData → Prop) : Prop :=
  ∃ f fd ps, ps.length = n ∧ FnOk P w K mg base CX0 lv f fd ps (spR K tabs ps.length R) ∧ mg x = some (.ref f) ∧ PySem.W.keepIn K (.ref f) = true ∧ Binds K fd ps []
def GDef (K : PySem.W.Frag) (mg : Str → Option Value) (x : Str) (st : Stmt) (ps : List Str) : Prop := ∃ f fd, Fun K x x st f fd ∧ Binds K fd ps [] ∧ mg x = some (.ref f)
theorem known_of {P : Program} {w : World} {K : PySem.W.Frag} {mg : Str → Option Value} {base : Heap} {tabs : Tbs} {k : Nat} {x : Str} {st : Stmt} {N ps : List Str} {R : List PyData → PyData → Prop} (D : GDef K mg x st ps) (Sc : FnScope N ps (defScope st))
    (hb : ∀ (cdv : Value) (B F0 : Hp) (ds : List PyData) (r : PyData), ds.length = ps.length → R ds r → SJ (Stat.of P w K mg base N (defScope st) k tabs cdv B F0 x) (gm0 N.length ds) (defBody st) ⟨fun _ => r = .none, fun d => d = r⟩) : Known P w K mg base tabs (k + 1) x ps.length R := by
  obtain ⟨f, fd, F, b, m⟩ := D
  exact ⟨f, fd, ps, rfl, def_ok F Sc hb, m, F.kp, b⟩
theorem e_callK {S : Stat} {γ : Gm} {e : Expr} {es : List Expr} {ds : List PyData} {d : PyData} {pos p : Pos} {x : Str} {k n : Nat} {R : List PyData → PyData → Prop} (G : Known S.P S.w S.K S.mg S.base S.tabs k x n R) (hk : k ≤ S.k) (hg : IsGl S x)
    (ha : AJ S γ (e :: es) ds) (hr : R ds d) (hl : ds.length = n) (hs : PlainE e) (hpl : ∀ X : Cx, (backTo pos (starEach es X.env)).any (·.1) = false) (hdb : (x == ("__debug__" : Str)) = false) : EJ S γ (.Call (.Name x p) (e :: es) [] pos) d := by
  obtain ⟨f, fd, ps, hn, G, m, kp, b⟩ := G
  exact e_call G hk hg m kp b ha hr (hl.trans hn.symm) hs hpl hdb
theorem J.body {S : Stat} {γ : Gm} {ss : List Stmt} {ρ : Type} {enc : ρ → PyData} {o : Option ρ} {y : ρ} (h : J S γ ss (pT enc) o) (hy : o = some y) : SJ S γ ss ⟨fun _ => enc y = .none, fun d => d = enc y⟩ := (h y hy).imp (fun _ z => z.elim) fun _ z => z
end SM

set_option autoImplicit false
set_option Elab.async false
set_option linter.all false
set_option maxRecDepth 100000
set_option maxHeartbeats 4000000
namespace SM
open PySem PySem.Spec PyProof.Rows L2
/-! ### the law's own equality -/
mutual
def lawIs (v : PyData) : PyData → Bool
  | .none => isN v
  | .bool b => match v with | .bool c => decide (c = b) | _ => false
  | .int i => match v with | .int j => decide (j = i) | _ => false
  | .str s => match v with | .str t => decide (t = s) | _ => false
  | .tuple ds => match v with | .tuple vs => lawAll vs ds | _ => false
  | .list ds => match v with | .tuple vs => lawAll vs ds | _ => false
  | .dict _ => false
def lawAll : List PyData → List PyData → Bool
  | [], [] => true
  | v :: vs, d :: ds => lawIs v d && lawAll vs ds
  | _, _ => false
end
def okD : Nat → PyData → Bool
  | _, .none => true
  | _, .bool _ => true
  | _, .int _ => true
  | _, .str _ => true
  | k + 1, .tuple ds => decide (ds.length ≤ 8388608) && ds.all (okD k)
  | k + 1, .list ds => decide (ds.length ≤ 8388608) && ds.all (okD k)
  | _, _ => false
def m__law_is (v d : PyData) : Option Bool := if okD 6 d = true then some (lawIs v d) else none
theorem lawAll_len : ∀ {vs ds : List PyData}, vs.length ≠ ds.length → lawAll vs ds = false
  | [], [], h => absurd rfl h
  | [], _ :: _, _ => by simp [lawAll]
  | _ :: _, [], _ => by simp [lawAll]
  | v :: vs, d :: ds, h => by
    rw [lawAll, lawAll_len (by simpa using h), Bool.and_false]
theorem lawAll_zip : ∀ {vs ds : List PyData}, vs.length = ds.length → ((vs.zip ds).map fun p => lawIs p.1 p.2).all id = lawAll vs ds
  | [], [], _ => by simp [lawAll]
  | v :: vs, d :: ds, h => by
    rw [lawAll, List.zip_cons_cons, List.map_cons, List.all_cons, lawAll_zip (by simpa using h)]; rfl
section
variable {S : Stat} {γ : Gm} {sa rest : List Stmt} {c : Expr} {pos : Pos} {α : Type} {post : α → Post} {o : Option α}
theorem j_ifT (hc : TJ S γ c true) (h : J S γ sa (fun x => (post x).noNx) o) : J S γ (.If c sa [] pos :: rest) post o := by
  have := j_ifR (rest := rest) (post := post) (pos := pos) (o1 := o) (o2 := none) hc (fun _ => h) (fun z => by cases z)
  rwa [if_pos rfl] at this
theorem j_ifF (hc : TJ S γ c false) (h : J S γ rest post o) : J S γ (.If c sa [] pos :: rest) post o := by
  have := j_ifR (sa := sa) (post := post) (pos := pos) (o1 := none) (o2 := o) hc (fun z => by cases z) (fun _ => h)
  rwa [if_neg Bool.false_ne_true] at this
end
theorem atI_pos {α : Type} {xs : List α} {i : Int} (h : 0 ≤ i) : atI xs i = xs[i.toNat]? := by
  unfold atI ixN
  rw [if_pos h]
  split
  · rfl
  · rw [List.getElem?_eq_none (by omega)]; rfl
theorem compM_get' {α β : Type} {f : α → Option (Option β)} {g : α → β} : ∀ {xs : List α}, (∀ x ∈ xs, f x = some (some (g x))) → compM f xs = some (xs.map g)
  | [], _ => by simp [compM]
  | x :: xs, h => by
    have e1 := h x List.mem_cons_self
    have e2 := compM_get' (f := f) (g := g) (xs := xs) fun y hy => h y (List.mem_cons_of_mem _ hy)
    simp [compM, e1, e2]
theorem mem_rng {lo hi i : Int} : i ∈ rng lo hi ↔ lo ≤ i ∧ i < hi := by
  unfold rng
  simp only [List.mem_map, List.mem_range]
  constructor
  · rintro ⟨k, h1, h2⟩; omega
  · rintro ⟨h1, h2⟩; exact ⟨(i - lo).toNat, by omega, by omega⟩
theorem rng_map_get {α β : Type} {xs : List α} {g : α → β} {n : Int} (hn : n = xs.length) [Inhabited β] : (rng 0 n).map (fun i => ((xs[i.toNat]?).map g).getD default) = xs.map g := by
  subst hn
  unfold rng
  rw [List.map_map]
  apply List.ext_getElem?
  intro i
  simp only [List.getElem?_map, List.getElem?_range, Int.sub_zero, Int.toNat_natCast, Function.comp]
  by_cases hi : i < xs.length
  · rw [List.getElem?_range (by simpa using hi), List.getElem?_eq_getElem hi]
    simp [hi]
  · rw [List.getElem?_eq_none (by simpa using hi), List.getElem?_eq_none (by omega)]
    rfl
theorem compM_at {α β : Type} {xs : List α} {g : α → β} {n : Int} (hn : n = xs.length) : compM (fun i => (atI xs i).bind fun p => some (some (g p))) (rng 0 n) = some (xs.map g) := by
  subst hn
  cases hx : xs with
  | nil => simp [rng, compM]
  | cons x r =>
    rw [← hx]
    haveI : Inhabited β := ⟨g x⟩
    rw [← rng_map_get (g := g) rfl]
    refine compM_get' fun i hi => ?_
    rw [mem_rng] at hi
    rw [atI_pos hi.1, List.getElem?_eq_getElem (by omega)]
    rfl
theorem atI_zip {α β : Type} {xs : List α} {ys : List β} {i : Int} {p : α × β} (h0 : 0 ≤ i) (h : atI (xs.zip ys) i = some p) : atI xs i = some p.1 ∧ atI ys i = some p.2 := by
  rw [atI_pos h0] at h ⊢
  rw [atI_pos h0]
  exact List.getElem?_zip_eq_some.mp h
theorem mem_at {α : Type} {xs : List α} {i : Int} {x : α} (h : atI xs i = some x) : x ∈ xs := by
  unfold atI at h
  obtain ⟨j, _, h2⟩ := Option.bind_eq_some_iff.mp h
  exact List.mem_of_getElem? h2
theorem is_bool {v : PyData} (h : isInst "bool" v = true) : ∃ c, v = .bool c := by cases v <;> first | exact ⟨_, rfl⟩ | exact Bool.noConfusion (show (false : Bool) = true from h)
theorem is_str {v : PyData} (h : isInst "str" v = true) : ∃ c, v = .str c := by cases v <;> first | exact ⟨_, rfl⟩ | exact Bool.noConfusion (show (false : Bool) = true from h)
theorem is_tup {v : PyData} (h : isInst "tuple" v = true) : ∃ c, v = .tuple c := by cases v <;> first | exact ⟨_, rfl⟩ | exact Bool.noConfusion (show (false : Bool) = true from h)
theorem is_int {v : PyData} (h : (isInst "int" v && !isInst "bool" v) = true) : ∃ c, v = .int c := by cases v <;> first | exact ⟨_, rfl⟩ | exact Bool.noConfusion (show (false : Bool) = true from h)
theorem no_bool {v : PyData} {b : Bool} (h : isInst "bool" v = false) : lawIs v (.bool b) = false := by
  cases v <;> first | (simp [lawIs]; done) | exact Bool.noConfusion (show (true : Bool) = false from h)
theorem no_int {v : PyData} {b : Int} (h : (isInst "int" v && !isInst "bool" v) = false) : lawIs v (.int b) = false := by
  cases v <;> first | (simp [lawIs]; done) | exact Bool.noConfusion (show (true : Bool) = false from h)
theorem no_str {v : PyData} {b : Str} (h : isInst "str" v = false) : lawIs v (.str b) = false := by
  cases v <;> first | (simp [lawIs]; done) | exact Bool.noConfusion (show (true : Bool) = false from h)
theorem no_tup {v : PyData} {b : List PyData} (h : isInst "tuple" v = false) : lawIs v (.tuple b) = false ∧ lawIs v (.list b) = false := by
  cases v <;> first | (simp [lawIs]; done) | exact Bool.noConfusion (show (true : Bool) = false from h)
theorem kit_int (d : PyData) : kitB (tyN d) "int" = some (isInst "int" d) := by
  cases d <;> (unfold isInst; simp only [tyN]; decide +kernel)
theorem kit_bool (d : PyData) : kitB (tyN d) "bool" = some (isInst "bool" d) := by
  cases d <;> (unfold isInst; simp only [tyN]; decide +kernel)
theorem kit_str (d : PyData) : kitB (tyN d) "str" = some (isInst "str" d) := by
  cases d <;> (unfold isInst; simp only [tyN]; decide +kernel)
theorem kit_tuple (d : PyData) : kitB (tyN d) "tuple" = some (isInst "tuple" d) := by
  cases d <;> (unfold isInst; simp only [tyN]; decide +kernel)
theorem kit_list (d : PyData) : kitB (tyN d) "list" = some (isInst "list" d) := by
  cases d <;> (unfold isInst; simp only [tyN]; decide +kernel)
theorem len_le {ds : List PyData} {n : Nat} (h : ds.length = n) (hn : n ≤ 16777216) : ds.length ≤ sizeLine := h ▸ hn
theorem ne_cell {o : Option NameKind} (h : o = some .cell) : o ≠ some .local := by rw [h]; decide
end SM

set_option autoImplicit false
set_option Elab.async false
set_option linter.all false
set_option maxRecDepth 100000
set_option maxHeartbeats 4000000
namespace SM
open PySem PySem.Spec PyProof.Rows L2

/-! ### loops, in plain Lean -/
section
variable {α β τ ρ : Type}
theorem fold_inv {f : β → τ → Option β} {xs : List τ} {t0 : β} (I : List τ → β → Prop) (h0 : I [] t0) (hs : ∀ p x q t, xs = p ++ x :: q → I p t → ∃ t', f t x = some t' ∧ I (p ++ [x]) t') : ∃ t, xs.foldlM f t0 = some t ∧ I xs t := by
  have key : ∀ (ys p : List τ) (t : β), xs = p ++ ys → I p t → ∃ t', ys.foldlM f t = some t' ∧ I xs t' := by
    intro ys
    induction ys with
    | nil => intro p t e h; exact ⟨t, rfl, by rw [e, List.append_nil]; exact h⟩
    | cons y ys ih =>
      intro p t e h
      obtain ⟨t1, h1, h2⟩ := hs p y ys t e h
      obtain ⟨t2, h3, h4⟩ := ih (p ++ [y]) t1 (by rw [e, List.append_assoc]; rfl) h2
      exact ⟨t2, by rw [List.foldlM_cons, h1]; exact h3, h4⟩
  exact key xs [] t0 rfl h0
theorem fold_tot {f : β → τ → Option β} {xs : List τ} {g : β → τ → β} {t0 : β} (h : ∀ t, ∀ x ∈ xs, f t x = some (g t x)) : xs.foldlM f t0 = some (xs.foldl g t0) := by
  induction xs generalizing t0 with
  | nil => rfl
  | cons x xs ih =>
    rw [List.foldlM_cons, h t0 x List.mem_cons_self]
    exact ih fun t y hy => h t y (List.mem_cons_of_mem _ hy)
theorem rng_succ (lo : Int) (n : Nat) : rng lo (lo + ((n + 1 : Nat) : Int)) = rng lo (lo + (n : Int)) ++ [lo + (n : Int)] := by
  unfold rng
  rw [show (lo + ((n + 1 : Nat) : Int) - lo).toNat = n + 1 by omega, show (lo + (n : Int) - lo).toNat = n by omega, List.range_succ, List.map_append]
  rfl
theorem rng_neg {lo hi : Int} (h : hi ≤ lo) : rng lo hi = [] := by
  unfold rng
  rw [show (hi - lo).toNat = 0 by omega]; rfl
theorem rng_cons {lo hi : Int} (h : lo < hi) : rng lo hi = lo :: rng (lo + 1) hi := by
  unfold rng
  rw [show (hi - lo).toNat = (hi - (lo + 1)).toNat + 1 by omega, List.range_succ_eq_map, List.map_cons, List.map_map]
  congr 1
  · omega
  · apply List.map_congr_left
    intro a _
    simp only [Function.comp]; omega
theorem foldlM_snoc {f : β → τ → Option β} {xs : List τ} {x : τ} {t : β} : (xs ++ [x]).foldlM f t = (xs.foldlM f t).bind fun t' => f t' x := by
  rw [List.foldlM_append]
  cases xs.foldlM f t with
  | none => rfl
  | some a =>
    show (do let t' ← List.foldlM f a [x]; pure t') = f a x
    rw [List.foldlM_cons]
    cases f a x <;> rfl
theorem fold_rng {f : β → Int → Option β} {n : Nat} {t0 : β} (I : Nat → β → Prop) (h0 : I 0 t0) (hs : ∀ k t, k < n → I k t → ∃ t', f t (k : Int) = some t' ∧ I (k + 1) t') : ∃ t, (rng 0 (n : Int)).foldlM f t0 = some t ∧ I n t := by
  induction n with
  | zero => exact ⟨t0, by rw [rng_neg (lo := 0) (hi := ((0 : Nat) : Int)) (by decide)]; rfl, h0⟩
  | succ n ih =>
    obtain ⟨t, h1, h2⟩ := ih fun k t hk => hs k t (Nat.lt_succ_of_lt hk)
    obtain ⟨t', h3, h4⟩ := hs n t (Nat.lt_succ_self n) h2
    refine ⟨t', ?_, h4⟩
    have e := rng_succ 0 n
    simp only [Int.zero_add] at e
    rw [e, foldlM_snoc, h1]
    exact h3
theorem foldR_snoc {f : β → τ → Option (Res ρ β)} : ∀ {xs : List τ} {x : τ} {t t1 : β}, foldR f t xs = some (.nx t1) → foldR f t (xs ++ [x]) = f t1 x
  | [], x, t, t1, h => by
    cases h
    show (f t x).bind _ = f t x
    cases f t x with
    | none => rfl
    | some r => cases r <;> rfl
  | y :: ys, x, t, t1, h => by
    unfold foldR at h
    show foldR f t (y :: (ys ++ [x])) = _
    unfold foldR
    cases hy : f t y with
    | none => rw [hy] at h; cases h
    | some r =>
      rw [hy] at h
      cases r with
      | ret r => cases h
      | nx t2 => exact foldR_snoc (xs := ys) h
theorem foldR_inv {f : β → τ → Option (Res ρ β)} {xs : List τ} {t0 : β} (I : List τ → β → Prop) (h0 : I [] t0) (hs : ∀ p x q t, xs = p ++ x :: q → I p t → ∃ t', f t x = some (.nx t') ∧ I (p ++ [x]) t') : ∃ t, foldR f t0 xs = some (.nx t) ∧ I xs t := by
  have key : ∀ (ys p : List τ) (t : β), xs = p ++ ys → I p t → ∃ t', foldR f t ys = some (.nx t') ∧ I xs t' := by
    intro ys
    induction ys with
    | nil => intro p t e h; exact ⟨t, rfl, by rw [e, List.append_nil]; exact h⟩
    | cons y ys ih =>
      intro p t e h
      obtain ⟨t1, h1, h2⟩ := hs p y ys t e h
      obtain ⟨t2, h3, h4⟩ := ih (p ++ [y]) t1 (by rw [e, List.append_assoc]; rfl) h2
      exact ⟨t2, by unfold foldR; rw [h1]; exact h3, h4⟩
  exact key xs [] t0 rfl h0
theorem foldR_nx {f : Unit → τ → Option (Res ρ Unit)} {xs : List τ} (hs : ∀ x ∈ xs, f () x = some (.nx ())) : foldR f () xs = some (.nx ()) := by
  obtain ⟨t, h1, _⟩ := foldR_inv (f := f) (xs := xs) (t0 := ()) (fun _ _ => True) trivial fun p x q t e _ => ⟨(), hs x (by rw [e]; simp), trivial⟩
  exact h1
theorem foldR_rng {f : β → Int → Option (Res ρ β)} {n : Nat} {t0 : β} (I : Nat → β → Prop) (h0 : I 0 t0) (hs : ∀ k t, k < n → I k t → ∃ t', f t (k : Int) = some (.nx t') ∧ I (k + 1) t') : ∃ t, foldR f t0 (rng 0 (n : Int)) = some (.nx t) ∧ I n t := by
  induction n with
  | zero => exact ⟨t0, by rw [rng_neg (lo := 0) (hi := ((0 : Nat) : Int)) (by decide)]; rfl, h0⟩
  | succ n ih =>
    obtain ⟨t, h1, h2⟩ := ih fun k t hk => hs k t (Nat.lt_succ_of_lt hk)
    obtain ⟨t', h3, h4⟩ := hs n t (Nat.lt_succ_self n) h2
    refine ⟨t', ?_, h4⟩
    have e := rng_succ 0 n
    simp only [Int.zero_add] at e
    rw [e, foldR_snoc h1]
    exact h3
/-- the first that answers -/
def asR (o : Option ρ) : Res ρ Unit := match o with | some r => .ret r | none => .nx ()
theorem foldR_find {f : Unit → τ → Option (Res ρ Unit)} {h : τ → Option ρ} : ∀ {xs : List τ}, (∀ x ∈ xs, f () x = some (asR (h x))) → foldR f () xs = some (asR (xs.findSome? h))
  | [], _ => rfl
  | x :: xs, hs => by
    unfold foldR
    rw [hs x List.mem_cons_self, List.findSome?_cons]
    cases h x with
    | some r => rfl
    | none => exact foldR_find fun y hy => hs y (List.mem_cons_of_mem _ hy)
theorem compM_ok {f : τ → Option (Option β)} {g : τ → Option β} : ∀ {xs : List τ}, (∀ x ∈ xs, f x = some (g x)) → compM f xs = some (xs.filterMap g)
  | [], _ => by simp [compM]
  | x :: xs, h => by
    have e1 := h x List.mem_cons_self
    have e2 := compM_ok (f := f) (g := g) (xs := xs) fun y hy => h y (List.mem_cons_of_mem _ hy)
    cases hg : g x <;> simp [compM, e1, e2, hg]
end
theorem ex_bind {α β : Type} {o : Option α} {f : α → Option β} {x : α} {Q : β → Prop} (h : o = some x) (h2 : ∃ y, f x = some y ∧ Q y) : ∃ y, o.bind f = some y ∧ Q y := by subst h; exact h2
theorem bnd {α β : Type} {o : Option α} {f : α → Option β} {x : α} {r : Option β} (h : o = some x) (h2 : f x = r) : o.bind f = r := by subst h; exact h2
theorem itf {α : Type} {c : Bool} {a b r : α} (h : c = false) (h2 : b = r) : (if c = true then a else b) = r := by subst h; rw [if_neg Bool.false_ne_true]; exact h2
theorem itt {α : Type} {c : Bool} {a b r : α} (h : c = true) (h2 : a = r) : (if c = true then a else b) = r := by subst h; rw [if_pos rfl]; exact h2
section
variable {α β τ ρ δ : Type}
theorem ex_fold_rng {f : β → Int → Option β} {n : Nat} {t0 : β} {g : β → Option δ} {Q : δ → Prop} (I : Nat → β → Prop) (h0 : I 0 t0) (hs : ∀ k t, k < n → I k t → ∃ t', f t (k : Int) = some t' ∧ I (k + 1) t') (hg : ∀ t, I n t → ∃ y, g t = some y ∧ Q y) : ∃ y, ((rng 0 (n : Int)).foldlM f t0).bind g = some y ∧ Q y := by
  obtain ⟨t, h1, h2⟩ := fold_rng I h0 hs
  exact ex_bind h1 (hg t h2)
theorem ex_fold {f : β → τ → Option β} {xs : List τ} {t0 : β} {g : β → Option δ} {Q : δ → Prop} (I : List τ → β → Prop) (h0 : I [] t0) (hs : ∀ p x q t, xs = p ++ x :: q → I p t → ∃ t', f t x = some t' ∧ I (p ++ [x]) t') (hg : ∀ t, I xs t → ∃ y, g t = some y ∧ Q y) : ∃ y, (xs.foldlM f t0).bind g = some y ∧ Q y := by
  obtain ⟨t, h1, h2⟩ := fold_inv I h0 hs
  exact ex_bind h1 (hg t h2)
theorem fold_bnd {f : β → τ → Option β} {xs : List τ} {t0 : β} {g : β → Option δ} {r : Option δ} (I : List τ → β → Prop) (h0 : I [] t0) (hs : ∀ p x q t, xs = p ++ x :: q → I p t → ∃ t', f t x = some t' ∧ I (p ++ [x]) t') (hg : ∀ t, I xs t → g t = r) : (xs.foldlM f t0).bind g = r := by
  obtain ⟨t, h1, h2⟩ := fold_inv I h0 hs
  exact bnd h1 (hg t h2)
theorem fold_rng_bnd {f : β → Int → Option β} {n : Nat} {t0 : β} {g : β → Option δ} {r : Option δ} (I : Nat → β → Prop) (h0 : I 0 t0) (hs : ∀ k t, k < n → I k t → ∃ t', f t (k : Int) = some t' ∧ I (k + 1) t') (hg : ∀ t, I n t → g t = r) : ((rng 0 (n : Int)).foldlM f t0).bind g = r := by
  obtain ⟨t, h1, h2⟩ := fold_rng I h0 hs
  exact bnd h1 (hg t h2)
/-- a loop that only looks, and finds nothing -/
theorem foldR_bnd {f : Unit → τ → Option (Res ρ Unit)} {xs : List τ} {g : Res ρ Unit → Option δ} {r : Option δ} (hs : ∀ x ∈ xs, f () x = some (.nx ())) (hg : g (.nx ()) = r) : (foldR f () xs).bind g = r := bnd (foldR_nx hs) hg
end
section
variable {β δ : Type}
theorem fold_rngI {f : β → Int → Option β} {hi : Int} {t0 : β} {g : β → Option δ} {r : Option δ} (I : Nat → β → Prop) (hn : 0 ≤ hi) (h0 : I 0 t0) (hs : ∀ (k : Nat) t, (k : Int) < hi → I k t → ∃ t', f t (k : Int) = some t' ∧ I (k + 1) t') (hg : ∀ t, I hi.toNat t → g t = r) : ((rng 0 hi).foldlM f t0).bind g = r := by
  obtain ⟨n, rfl⟩ := Int.eq_ofNat_of_zero_le hn
  exact fold_rng_bnd I h0 (fun k t hk => hs k t (by omega)) hg
theorem ex_fold_rngI {f : β → Int → Option β} {hi : Int} {t0 : β} {g : β → Option δ} {Q : δ → Prop} (I : Nat → β → Prop) (hn : 0 ≤ hi) (h0 : I 0 t0) (hs : ∀ (k : Nat) t, (k : Int) < hi → I k t → ∃ t', f t (k : Int) = some t' ∧ I (k + 1) t') (hg : ∀ t, I hi.toNat t → ∃ y, g t = some y ∧ Q y) : ∃ y, ((rng 0 hi).foldlM f t0).bind g = some y ∧ Q y := by
  obtain ⟨n, rfl⟩ := Int.eq_ofNat_of_zero_le hn
  exact ex_fold_rng I h0 (fun k t hk => hs k t (by omega)) hg
end
theorem compM_ex {α β : Type} {f : α → Option (Option β)} {Q : β → Prop} : ∀ {xs : List α}, (∀ x ∈ xs, ∃ y, f x = some (some y) ∧ Q y) → ∃ ys, compM f xs = some ys ∧ ys.length = xs.length ∧ ∀ y ∈ ys, Q y
  | [], _ => ⟨[], by simp [compM], rfl, fun y hy => by cases hy⟩
  | x :: xs, h => by
    obtain ⟨y, h1, h2⟩ := h x List.mem_cons_self
    obtain ⟨ys, h3, h4, h5⟩ := compM_ex (f := f) (Q := Q) (xs := xs) fun z hz => h z (List.mem_cons_of_mem _ hz)
    refine ⟨y :: ys, by simp [compM, h1, h3], by rw [List.length_cons, h4]; rfl, fun z hz => ?_⟩
    rcases List.mem_cons.mp hz with e | e
    · rw [e]; exact h2
    · exact h5 z e
/-! ### small parts -/
theorem rngO_eq {lo hi : Int} (h : -8388608 ≤ lo ∧ lo ≤ 8388608 ∧ -8388608 ≤ hi ∧ hi ≤ 8388608) : rngO lo hi = some (rng lo hi) := by unfold rngO; rw [if_pos h]
theorem catO_eq {α : Type} {xs ys : List α} (h : xs.length + ys.length ≤ 16777216) : catO xs ys = some (xs ++ ys) := by unfold catO; rw [if_pos h]
theorem appO_eq {α : Type} {xs : List α} {x : α} (h : xs.length < 16777216) : appO xs x = some (xs ++ [x]) := by unfold appO; rw [if_pos h]
theorem modO_eq {x y : Int} (h : 0 < y) : modO x y = some (x % y) := by unfold modO; rw [if_pos h]
theorem mulO_eq {x y : Int} (h : (-2 ^ 64 < x ∧ x < 2 ^ 64) ∨ (-2 ^ 64 < y ∧ y < 2 ^ 64)) : mulO x y = some (x * y) := by unfold mulO; rw [if_pos h]
theorem atI_lt {α : Type} {xs : List α} {i : Int} (h : 0 ≤ i) (h2 : i < xs.length) : ∃ x, atI xs i = some x ∧ x ∈ xs ∧ xs[i.toNat]? = some x := by
  rw [atI_pos h, List.getElem?_eq_getElem (show i.toNat < xs.length by omega)]
  exact ⟨_, rfl, List.getElem_mem _, rfl⟩
theorem atI_n {α : Type} {xs : List α} (k : Nat) : atI xs (k : Int) = xs[k]? := by rw [atI_pos (by omega)]; rfl
theorem andO_t {y : Option Bool} : andO (some true) y = y := rfl
theorem andO_f {y : Option Bool} : andO (some false) y = some false := rfl
theorem orO_t {y : Option Bool} : orO (some true) y = some true := rfl
theorem orO_f {y : Option Bool} : orO (some false) y = y := rfl
theorem headO {α : Type} {xs : List α} : (if (decide ((0 : Int) < ((List.length xs : Nat) : Int))) = true then ((atI xs (0 : Int)).bind fun t => some (some t)) else some none) = some xs.head? := by
  cases xs with
  | nil => rfl
  | cons x r =>
    rw [if_pos (by rw [decide_eq_true_iff, List.length_cons]; omega), show (0 : Int) = ((0 : Nat) : Int) from rfl, atI_n]
    rfl
theorem cut_take {α : Type} {xs : List α} {i : Int} (h : 0 ≤ i) : cut xs none (some i) = xs.take i.toNat := by
  obtain ⟨k, rfl⟩ := Int.eq_ofNat_of_zero_le h
  unfold cut
  rw [HT.sIx_none, HT.sIx_nat, List.drop_zero, Nat.sub_zero, Int.toNat_natCast]
  apply List.ext_getElem?
  intro j
  simp only [List.getElem?_take]
  split <;> split <;> first | rfl | omega | skip
  rw [List.getElem?_eq_none (by omega)]
theorem cut_drop {α : Type} {xs : List α} {i : Int} (h : 0 ≤ i) : cut xs (some i) none = xs.drop i.toNat := by
  obtain ⟨k, rfl⟩ := Int.eq_ofNat_of_zero_le h
  unfold cut
  rw [HT.sIx_none, HT.sIx_nat, Int.toNat_natCast, List.take_of_length_le (by rw [List.length_drop]; omega)]
  by_cases hk : k ≤ xs.length
  · rw [Nat.min_eq_left hk]
  · rw [Nat.min_eq_right (by omega), List.drop_length, List.drop_of_length_le (by omega)]
theorem cut_mid {α : Type} {xs : List α} {i j : Int} (h : 0 ≤ i) (h2 : 0 ≤ j) : cut xs (some i) (some j) = (xs.drop i.toNat).take (j.toNat - i.toNat) := by
  obtain ⟨a, rfl⟩ := Int.eq_ofNat_of_zero_le h
  obtain ⟨b, rfl⟩ := Int.eq_ofNat_of_zero_le h2
  unfold cut
  rw [HT.sIx_nat, HT.sIx_nat, Int.toNat_natCast, Int.toNat_natCast]
  apply List.ext_getElem?
  intro m
  simp only [List.getElem?_take, List.getElem?_drop]
  by_cases hm : m < b - a ∧ a + m < xs.length
  · rw [if_pos (by omega), if_pos hm.1, show min a xs.length = a by omega]
  · by_cases h3 : m < b - a
    · rw [if_pos h3, List.getElem?_eq_none (show xs.length ≤ a + m by omega)]
      split
      · rw [List.getElem?_eq_none (by omega)]
      · rfl
    · rw [if_neg h3, if_neg (by omega)]
theorem cut_len {α : Type} {xs : List α} {l u : Option Int} : (cut xs l u).length ≤ xs.length := by
  unfold cut
  rw [List.length_take, List.length_drop]; omega
/-! ### the law's own equality, on what is typed -/
theorem is_eB {x y : Bool} : m__law_is (eB x) (eB y) = some (decide (x = y)) := by simp [m__law_is, okD, lawIs]
theorem is_eI {x y : Int} : m__law_is (eI x) (eI y) = some (decide (x = y)) := by simp [m__law_is, okD, lawIs]
/-- what can be told apart by the law -/
structure IsEq {α : Type} (e : α → PyData) : Prop where
  is : ∀ x y, lawIs (e x) (e y) = true ↔ x = y
theorem IsEq.dec {α : Type} [DecidableEq α] {e : α → PyData} (h : IsEq e) (x y : α) : lawIs (e x) (e y) = decide (x = y) := by
  rw [Bool.eq_iff_iff, decide_eq_true_iff]; exact h.is x y
theorem isEq_I : IsEq eI := ⟨fun x y => by simp [lawIs]⟩
theorem isEq_B : IsEq eB := ⟨fun x y => by simp [lawIs]⟩
theorem isEq_S : IsEq eS := ⟨fun x y => by simp [lawIs]⟩
theorem lawAll_map {α : Type} {e : α → PyData} (h : IsEq e) : ∀ xs ys : List α, lawAll (xs.map e) (ys.map e) = true ↔ xs = ys
  | [], [] => by simp [lawAll]
  | [], _ :: _ => by simp [lawAll]
  | _ :: _, [] => by simp [lawAll]
  | x :: xs, y :: ys => by simp [lawAll, h.is, lawAll_map h xs ys]
theorem isEq_T {α : Type} {e : α → PyData} (h : IsEq e) : IsEq (eT e) := ⟨fun x y => by simp only [lawIs]; exact lawAll_map h x y⟩
theorem isEq_P2 {α β : Type} {e1 : α → PyData} {e2 : β → PyData} (h1 : IsEq e1) (h2 : IsEq e2) : IsEq (eP2 e1 e2) := ⟨fun x y => by
  obtain ⟨a, b⟩ := x; obtain ⟨c, d⟩ := y
  simp [lawIs, lawAll, h1.is, h2.is]⟩
theorem isEq_P3 {α β γ : Type} {e1 : α → PyData} {e2 : β → PyData} {e3 : γ → PyData} (h1 : IsEq e1) (h2 : IsEq e2) (h3 : IsEq e3) : IsEq (eP3 e1 e2 e3) := ⟨fun x y => by
  obtain ⟨a, b, c⟩ := x; obtain ⟨a', b', c'⟩ := y
  simp [lawIs, lawAll, h1.is, h2.is, h3.is]⟩
theorem isEq_O {α : Type} {e : α → PyData} (h : IsEq e) (hn : ∀ x, isN (e x) = false) (hn2 : ∀ x, lawIs .none (e x) = false) : IsEq (eO e) := ⟨fun x y => by
  cases x with
  | none =>
    cases y with
    | none => simp [eO, lawIs, isN]
    | some y => simp [eO, hn2]
  | some x =>
    cases y with
    | none => simp only [eO, lawIs, hn]; simp
    | some y => simp [eO, h.is]⟩
theorem isEq_OT {α : Type} {e : α → PyData} (h : IsEq e) : IsEq (eO (eT e)) := isEq_O (isEq_T h) (fun _ => rfl) fun _ => by simp [lawIs]
theorem isEq_OP2 {α β : Type} {e1 : α → PyData} {e2 : β → PyData} (h1 : IsEq e1) (h2 : IsEq e2) : IsEq (eO (eP2 e1 e2)) := isEq_O (isEq_P2 h1 h2) (fun _ => rfl) fun _ => by simp [lawIs]
theorem isEq_OP3 {α β γ : Type} {e1 : α → PyData} {e2 : β → PyData} {e3 : γ → PyData} (h1 : IsEq e1) (h2 : IsEq e2) (h3 : IsEq e3) : IsEq (eO (eP3 e1 e2 e3)) := isEq_O (isEq_P3 h1 h2 h3) (fun _ => rfl) fun _ => by simp [lawIs]
theorem isEq_OI : IsEq (eO eI) := isEq_O isEq_I (fun _ => rfl) fun _ => by simp [lawIs]
theorem okD_I {k : Nat} {x : Int} : okD k (eI x) = true := by cases k <;> rfl
theorem okD_B {k : Nat} {x : Bool} : okD k (eB x) = true := by cases k <;> rfl
theorem okD_S {k : Nat} {x : Str} : okD k (eS x) = true := by cases k <;> rfl
theorem okD_N {k : Nat} : okD k .none = true := by cases k <;> rfl
theorem okD_T {α : Type} {e : α → PyData} {k : Nat} {xs : List α} (h : xs.length ≤ 8388608) (h2 : ∀ x ∈ xs, okD k (e x) = true) : okD (k + 1) (eT e xs) = true := by
  simp only [okD, List.length_map, Bool.and_eq_true, decide_eq_true_eq, List.all_eq_true, List.mem_map]
  exact ⟨h, fun y ⟨x, hx, e⟩ => e ▸ h2 x hx⟩
theorem okD_P2 {α β : Type} {e1 : α → PyData} {e2 : β → PyData} {k : Nat} {x : α × β} (h1 : okD k (e1 x.1) = true) (h2 : okD k (e2 x.2) = true) : okD (k + 1) (eP2 e1 e2 x) = true := by
  simp [okD, h1, h2]
theorem okD_P3 {α β γ : Type} {e1 : α → PyData} {e2 : β → PyData} {e3 : γ → PyData} {k : Nat} {x : α × β × γ} (h1 : okD k (e1 x.1) = true) (h2 : okD k (e2 x.2.1) = true) (h3 : okD k (e3 x.2.2) = true) : okD (k + 1) (eP3 e1 e2 e3 x) = true := by
  simp [okD, h1, h2, h3]
theorem okD_O {α : Type} {e : α → PyData} {k : Nat} {x : Option α} (h : ∀ y, x = some y → okD k (e y) = true) : okD k (eO e x) = true := by
  cases x with
  | none => exact okD_N
  | some y => exact h y rfl
/-- equal things are told equal -/
theorem law_is_rfl {α : Type} {e : α → PyData} (h : IsEq e) {x : α} (ok : okD 6 (e x) = true) : m__law_is (e x) (e x) = some true := by
  unfold m__law_is
  rw [if_pos ok, (h.is x x).mpr rfl]
end SM

set_option autoImplicit false
set_option Elab.async false
set_option linter.all false
set_option maxRecDepth 100000
set_option maxHeartbeats 4000000
namespace SM
open PySem PySem.Spec PyProof.Rows L2 GenW

/-! ### the consumer's loops, by what holds between two items -/
section
variable {prog : Program} {w : World} {A : Around} {I : Addr} {R : Result → Shared → Prop}
theorem all_loopI (Z : Nat → Shared → Prop) (hstep : ∀ m s, Z m s → wpAny (model prog w) A.in1 (pyNext (.ref I)) (fun o s' => match o with
      | none => R (.ok (.ret (.bool true))) s'
      | some v => ∃ k, v = .bool k ∧ if k = true then (∃ m', m' < m ∧ Z m' s') else R (.ok (.ret (.bool false))) s') (fun _ _ => False) s) :
    ∀ m s, Z m s → codeAny (model prog w) A (.builtin "all.loop" ⟨[.ref I], []⟩) R s := by
  intro m
  induction m using Nat.strongRecOn with
  | ind m ih =>
    intro s hz
    refine codeAny_builtin F.entry_all_loop ?_
    rw [Around.under_plainId F.plain_all_loop _]
    show wpAny _ A.in1 (pyNext (.ref I) >>= _) _ _ s
    refine wpAny_bind (wpAny_mono (hstep m s hz) (fun o s' h => ?_) fun _ _ e => e.elim)
    cases o with
    | none => exact wpAny_bind (wpAny_rule (wpAny_pure h))
    | some v =>
      obtain ⟨k, rfl, h⟩ := h
      refine wpAny_bind (wpAny_holding (wpAny_truthy_bool ?_))
      refine wpAny_bind (wpAny_letGo ?_)
      cases k with
      | true =>
        simp only [if_true] at h ⊢
        obtain ⟨m', hm, hz'⟩ := h
        exact wpAny_pure ⟨plainId_quiet F.plain_all_loop _, ih m' hm s' hz'⟩
      | false =>
        simp only [Bool.false_eq_true, if_false] at h ⊢
        exact wpAny_bind (wpAny_rule (wpAny_pure h))
theorem any_loopI (Z : Nat → Shared → Prop) (hstep : ∀ m s, Z m s → wpAny (model prog w) A.in1 (pyNext (.ref I)) (fun o s' => match o with
      | none => R (.ok (.ret (.bool false))) s'
      | some v => ∃ k, v = .bool k ∧ if k = false then (∃ m', m' < m ∧ Z m' s') else R (.ok (.ret (.bool true))) s') (fun _ _ => False) s) :
    ∀ m s, Z m s → codeAny (model prog w) A (.builtin "any.loop" ⟨[.ref I], []⟩) R s := by
  intro m
  induction m using Nat.strongRecOn with
  | ind m ih =>
    intro s hz
    refine codeAny_builtin F.entry_any_loop ?_
    rw [Around.under_plainId F.plain_any_loop _]
    show wpAny _ A.in1 (pyNext (.ref I) >>= _) _ _ s
    refine wpAny_bind (wpAny_mono (hstep m s hz) (fun o s' h => ?_) fun _ _ e => e.elim)
    cases o with
    | none => exact wpAny_bind (wpAny_rule (wpAny_pure h))
    | some v =>
      obtain ⟨k, rfl, h⟩ := h
      refine wpAny_bind (wpAny_holding (wpAny_truthy_bool ?_))
      refine wpAny_bind (wpAny_letGo ?_)
      cases k with
      | false =>
        simp only [if_true, Bool.false_eq_true, if_false] at h ⊢
        obtain ⟨m', hm, hz'⟩ := h
        exact wpAny_pure ⟨plainId_quiet F.plain_any_loop _, ih m' hm s' hz'⟩
      | true =>
        simp only [Bool.true_eq_false, if_true, if_false] at h ⊢
        exact wpAny_bind (wpAny_rule (wpAny_pure h))
variable {E : Value → Shared → Prop} {s : Shared}
theorem call_allI {a : Addr} {g : Nat} {Q : Value → Shared → Prop} (hg : s.heap.IsGen a g) (h : codeAny (model prog w) A (.builtin "all.loop" ⟨[.ref a], []⟩) (fun r s' => match r with | .ok (.ret v) => Q v s' | .ok _ => False | .error e => E e s') s) :
    wpAny (model prog w) A (call (.builtin "all") [.ref a]) Q E s := by
  refine call_function_tree F.kind_all F.plain_all F.entry_all (F.args_all1 _) ?_
  unfold Builtin.«all»
  refine wpAny_bind (m := oneArg "all" _) (wpAny_pure ?_)
  exact wpAny_bind (wpAny_pyIter_gen hg (wpAny_pure ⟨plainId_quiet F.plain_all_loop _, h⟩))
theorem call_anyI {a : Addr} {g : Nat} {Q : Value → Shared → Prop} (hg : s.heap.IsGen a g) (h : codeAny (model prog w) A (.builtin "any.loop" ⟨[.ref a], []⟩) (fun r s' => match r with | .ok (.ret v) => Q v s' | .ok _ => False | .error e => E e s') s) :
    wpAny (model prog w) A (call (.builtin "any") [.ref a]) Q E s := by
  refine call_function_tree F.kind_any F.plain_any F.entry_any (F.args_any1 _) ?_
  unfold Builtin.«any»
  refine wpAny_bind (m := oneArg "any" _) (wpAny_pure ?_)
  exact wpAny_bind (wpAny_pyIter_gen hg (wpAny_pure ⟨plainId_quiet F.plain_any_loop _, h⟩))
end

/-! ### a generator expression's frame -/
structure GxOk (N : List Str) (sc scope : Scope) (own : List (Str × Nat)) : Prop extends BlkOk N sc scope own where
  co : scope.isCoroutine = false
  nocell : ∀ y ∈ scope.names, y.2 ≠ .cell
  dot : scope.names.lookup (".0" : Str) = some .local
abbrev gxC (X : Cx) (s : Shared) (H : Hp) (cenv : Env) (fp : List Addr) (A' : Around) (pn : List (Addr × Obj)) : Cx :=
  { X with A := A', s_0 := s, H_0 := H, env := cenv, outer := X.stack, stack := cenv :: X.stack, ex := fp, fn := fun _ => false, pn := pn, xe := fun _ _ => False }
section
variable {X : Cx} {pins : List (Addr × Obj)} {σ : L2.St} {H : Hp} {s : Shared}
theorem gx_start {scope : Scope} {own : List (Str × Nat)} {fp : List Addr} {code : Value} {A' : Around} {h5 : Heap} {g5 : Array GenState} {tk : Nat} {m : Str → Option Value} {a : Addr} {go : Obj} (I : Inv X pins σ H s) (ok : GxOk X.N X.env.scope scope own) (hN : X.N.Nodup) (hfp : ∀ b ∈ fp, FpOk X pins H b ∧ b < s.heap.objs.size)
    (hA : A'.frames = some (genEnv scope (cloFrom X.env.cells scope.names []) s.heap.objs.size code builtinsNs X.env :: X.stack)) (hh : X.calm = true → A'.handled = none) (kp : ∀ b o, s.heap.get? b = some o → h5.get? b = some o) (hns : h5.Ns s.heap.objs.size m) (hb : AllBare g5)
    (ha : h5.get? a = some go) (haC : s.heap.objs.size < a) (hgo : ∀ v, go.data ≠ .cell v) :
    Inv (gxC X s H (genEnv scope (cloFrom X.env.cells scope.names []) s.heap.objs.size code builtinsNs X.env) fp A' [(a, go)]) [] (wipe σ (own.map (·.2))) H { s with heap := h5, gens := g5, toks := tk } := by
  have hfree : ∀ y ∈ scope.names, y.2 = .free → ∃ c, X.env.cells.lookup y.1 = some c := fun y hy e => by
    rcases ok.free y hy e with k | k
    · exact I.ok.has _ (.inl k)
    · exact I.ok.has _ (.inr k)
  have cm : ∀ {y c}, (y, c) ∈ cloFrom X.env.cells scope.names [] → X.env.cells.lookup y = some c ∧ c < s.heap.objs.size := fun {y c} hm => by
    rcases cloFrom_mem hm with hm | ⟨h1, rfl⟩
    · cases hm
    · obtain ⟨c, hc⟩ := hfree _ h1 rfl
      rw [hc]
      obtain ⟨w, z⟩ := I.cell _ _ hc
      exact ⟨rfl, z.lt⟩
  have look : ∀ {y}, scope.names.lookup y = some .free → ∃ c, (cloFrom X.env.cells scope.names []).lookup y = some c ∧ X.env.cells.lookup y = some c := fun {y} hl => by
    have hy : (y, NameKind.free) ∈ scope.names := PySem.mem_of_lookup hl
    obtain ⟨c', e'⟩ := mem_lookup (cloFrom_has (cells := X.env.cells) (acc := []) hy)
    exact ⟨c', e', (cm (PySem.mem_of_lookup e')).1⟩
  have okB : (gxC X s H (genEnv scope (cloFrom X.env.cells scope.names []) s.heap.objs.size code builtinsNs X.env) fp A' [(a, go)]).Ok := by
    refine ⟨I.ok.mod, ok.kind, I.ok.glob, rfl, Nat.le_refl _,
      fun y z c e1 e2 => ?_, fun y hy => ?_, fun y c z e => ?_, hh, hA, .inr ⟨rfl, rfl⟩, fun b hb => ⟨?_, fun y c e z => ?_⟩, I.bs, Nat.le_trans I.ok.bsz I.sz, fun b o e hb => ?_, fun b hb z => ?_, I.stack, I.stkFree⟩
    · exact I.ok.inj y z c (cm (PySem.mem_of_lookup e1)).1 (cm (PySem.mem_of_lookup e2)).1
    · have hy : scope.names.lookup y = some .cell ∨ scope.names.lookup y = some .free := hy
      rcases hy with hy | hy
      · exact absurd rfl (ok.nocell _ (PySem.mem_of_lookup hy))
      · obtain ⟨c, h1, _⟩ := look hy
        exact ⟨c, h1⟩
    · exact absurd (show (false : Bool) = true from z) Bool.false_ne_true
    · show b ≠ s.heap.objs.size
      exact Nat.ne_of_lt (hfp b hb).2
    · exact (hfp b hb).1.2.2.2.2.1 y c (cm (PySem.mem_of_lookup e)).1 z
    · rcases (hfp b hb).1.2.2.2.1 with z | z
      · exact I.ok.noex b o e z
      · exact absurd (Nat.lt_of_lt_of_le (Heap.lt_size e) (Nat.le_trans I.ok.bsz z)) (Nat.lt_irrefl _)
    · rcases List.mem_cons.mp (I.stkSub b z) with z | z
      · exact (hfp b hb).1.2.1 z
      · exact (hfp b hb).1.2.2.1 z
  refine ⟨okB, rfl, hb, Un.kept kp, ⟨m, hns, fun i y av e1 e2 e3 => ?_⟩, fun y c e => ?_, I.hok.fresh (Nat.le_refl _), fun y c e => I.freeC y c (cm (PySem.mem_of_lookup e)).1, fun p hp => ?_, I.hok.kept kp, by rw [wipe_length]; exact I.len⟩
  · obtain ⟨e2, hne⟩ := wipe_some e2
    have no : ∀ k', scope.names.lookup y = some k' → ¬ (k' = .local ∨ k' = .cell) := fun k' e hh => by
      rcases ok.own _ (PySem.mem_of_lookup e) hh with e' | e'
      · obtain ⟨p, hp, hpy⟩ := List.mem_map.mp e'
        have e3 := ok.ix p hp
        have : p.1 = y := hpy
        rw [this] at e3
        exact hne (List.mem_map.mpr ⟨p, hp, nodup_ix hN e3 e1⟩)
      · exact e' (List.mem_of_getElem? e1)
    have e3 : scope.names.lookup y = some .local ∨ scope.names.lookup y = some .cell ∨ scope.names.lookup y = some .free := e3
    have hfr : scope.names.lookup y = some .free := by
      rcases e3 with e3 | e3 | e3
      · exact absurd (.inl rfl) (no _ e3)
      · exact absurd (.inr rfl) (no _ e3)
      · exact e3
    obtain ⟨m', hn, hl⟩ := I.loc
    have hvis : Vis X.env.scope y := (ok.free _ (PySem.mem_of_lookup hfr) rfl).elim (fun k => .inr (.inl k)) (fun k => .inr (.inr k))
    obtain ⟨w, r, q⟩ := hl i y av e1 e2 hvis
    refine ⟨w, r, .inr ⟨.inr hfr, ?_⟩⟩
    obtain ⟨c, h1, h2⟩ := look hfr
    rcases q with ⟨k, _⟩ | ⟨_, c', e', z⟩
    · have k : X.env.scope.names.lookup y = some .local := k
      rcases ok.free _ (PySem.mem_of_lookup hfr) rfl with k' | k' <;> rw [show X.env.scope.names.lookup y = _ from k'] at k <;> cases k
    · rw [h2] at e'; cases e'
      exact ⟨c, h1, z.keeps kp⟩
  · obtain ⟨w, z⟩ := I.cell y c (cm (PySem.mem_of_lookup e)).1
    exact ⟨w, z.keeps kp⟩
  · have hp : p ∈ [(a, go)] ++ [] := hp
    rw [List.append_nil, List.mem_singleton] at hp
    subst hp
    exact ⟨ha, I.hok.fresh (Nat.le_of_lt haC), Nat.ne_of_gt haC, fun z => by
      obtain ⟨_, o, ho, _⟩ := I.stack.mem z
      exact absurd (Nat.lt_trans (Heap.lt_size ho) haC) (Nat.lt_irrefl _), hgo⟩
end

/-! ### its loop -/
theorem Inv_regen {X : Cx} {pins : List (Addr × Obj)} {σ : L2.St} {H : Hp} {s s' : Shared} (I : Inv X pins σ H s) (hh : s'.heap = s.heap) (ho : s'.os = s.os) (hb : AllBare s'.gens) : Inv X pins σ H s' := by
  obtain ⟨h', g', d', t', o'⟩ := s'
  obtain rfl : h' = s.heap := hh
  exact ⟨I.ok, ho.trans I.os, hb, I.base, I.loc, I.cell, I.free, I.freeC, I.pin, I.hok, I.len⟩
structure GxOut (X : Cx) (s3 : Shared) (H3 : Hp) (fp : List Addr) (a : Addr) (g : Nat) (H : Hp) (s1 : Shared) : Prop where
  os : s1.os = s3.os
  un : Un (frs X.stack) fp H3 H s3.heap s1.heap
  hok : HOk X.prog X.w H s1.heap
  bare : AllBare s1.gens
  gen : s1.heap.IsGen a g
  lim : s1.heap.NoLimit
def gxY (X : Cx) (s3 : Shared) (H3 : Hp) (fp : List Addr) (a : Addr) (g : Nat) (al : Bool) (Q : VK) : Protocol := fun n s0 v s1 kap =>
  ∃ k H, v = .bool k ∧ GxOut X s3 H3 fp a g H s1 ∧ (k = !al → Q (.bl (!al)) H) ∧ (k = al → ∀ s', s'.heap = s1.heap → s'.os = s1.os → AllBare s'.gens → kap (.send .none) s')
def gxR (X : Cx) (s3 : Shared) (H3 : Hp) (fp : List Addr) (a : Addr) (g : Nat) (al : Bool) (Q : VK) : Nat → Shared → Shared → Prop := fun n s0 s1 =>
  ∃ H, GxOut X s3 H3 fp a g H s1 ∧ Q (.bl al) H
/-- what a turn is to reach -/
def GxTurn (J : It) (al : Bool) (g : TG) (tt : TT) (te : TE) (vs : List Nat) (σ : L2.St) (Q : VK) (W : Nat → Nat → Hp → Prop) : Prop := ∀ i m H, W i m H →
  (J.stop i H ∧ Q (.bl al) H) ∨ (J.go i H ∧ ∃ Nx : Hp → Prop, (∀ H', Nx H' → ∃ m', m' < m ∧ W (i + 1) m' H') ∧ ∀ x H', J.yld i H x H' → g x (wipe σ vs) H' fun σ2 H2 => wipe σ2 vs = wipe σ vs ∧ tt σ2 H2 fun b H3 =>
    if b = true then te σ2 H3 fun y H4 => ∃ k : Bool, y = .bl k ∧ if k = al then Nx H4 else Q (.bl (!al)) H4 else Nx H3)
section
variable {X : Cx} {s3 : Shared} {H3 : Hp} {fp : List Addr} {cenv : Env} {A2 : Around} {a it : Addr} {gi : Nat} {go : Obj} {σ : L2.St} {vs : List Nat} {al : Bool} {Q : VK} {elt tg iter : Expr} {ifs : List Expr} {scope : Scope} {gpos : Pos} {J : It} {tn : Nat → Heap → Prop} {g : TG} {tt : TT} {te : TE} {W : Nat → Nat → Hp → Prop}
theorem gx_out {A' : Around} {pins : List (Addr × Obj)} {σ' : L2.St} {H : Hp} {s1 : Shared} (hgo : ∃ nm qn, go = { cls := .type "generator", dict := none, data := .fields #[.int gi 0, nm, qn], slots := #[] } ∧ ∀ h : Heap, h.get? a = some go → h.IsGen a gi) (I : Inv (gxC X s3 H3 cenv fp A' [(a, go)]) pins σ' H s1) : GxOut X s3 H3 fp a gi H s1 :=
  ⟨I.os, I.base, I.hok, I.bare, by
    obtain ⟨_, _, _, h⟩ := hgo
    exact h _ (I.pin (a, go) (List.mem_append_left _ List.mem_cons_self)).1, I.nolimit⟩
theorem gx_seg (hc : X.calm = true) (hco : cenv.scope.isCoroutine = false) (hgo : ∃ nm qn, go = { cls := .type "generator", dict := none, data := .fields #[.int gi 0, nm, qn], slots := #[] } ∧ ∀ h : Heap, h.get? a = some go → h.IsGen a gi)
    (T : Turn X.prog X.w X.K tg J fp it tn)
    (pg : PG (gxC X s3 H3 cenv fp (A2.over (.compLoop (.GeneratorExp elt [⟨tg, iter, ifs, 0⟩] scope gpos) 0 (.ref it) .none cenv) []) [(a, go)]) tg g)
    (pt : PTs (gxC X s3 H3 cenv fp (A2.over (.compLoop (.GeneratorExp elt [⟨tg, iter, ifs, 0⟩] scope gpos) 0 (.ref it) .none cenv) []) [(a, go)]) ifs tt)
    (pe : PE (gxC X s3 H3 cenv fp (A2.over (.compLoop (.GeneratorExp elt [⟨tg, iter, ifs, 0⟩] scope gpos) 0 (.ref it) .none cenv) []) [(a, go)]) elt te)
    (hfa : ∀ b ∈ fp, b ≠ a) (turn : GxTurn J al g tt te vs σ Q W) :
    ∀ (m n i : Nat) (s s0 : Shared) (H : Hp), m < n → Inv (gxC X s3 H3 cenv fp (A2.over (.compLoop (.GeneratorExp elt [⟨tg, iter, ifs, 0⟩] scope gpos) 0 (.ref it) .none cenv) []) [(a, go)]) [] (wipe σ vs) H s → tn i s.heap → (∀ b ∈ fp, H b = none) → W i m H →
      Seg (model X.prog X.w) A2 (fun n s0 r s1 => r = .ok .next ∧ gxR X s3 H3 fp a gi al Q n s0 s1) (gxY X s3 H3 fp a gi al Q) n s0 (.compLoop (.GeneratorExp elt [⟨tg, iter, ifs, 0⟩] scope gpos) 0 (.ref it) .none cenv)
        ((model X.prog X.w).den (.compLoop (.GeneratorExp elt [⟨tg, iter, ifs, 0⟩] scope gpos) 0 (.ref it) .none cenv)) [] s := by
  intro m
  induction m using Nat.strongRecOn with
  | ind m ih =>
  intro n i s s0 H hmn I st nfp w
  have stat : ∀ {σ' : L2.St} {H' : Hp} {s' : Shared}, Inv (gxC X s3 H3 cenv fp (A2.over (.compLoop (.GeneratorExp elt [⟨tg, iter, ifs, 0⟩] scope gpos) 0 (.ref it) .none cenv) []) [(a, go)]) [] σ' H' s' → (∀ b ∈ fp, H' b = none) → ∀ b ∈ fp, FpOk (gxC X s3 H3 cenv fp (A2.over (.compLoop (.GeneratorExp elt [⟨tg, iter, ifs, 0⟩] scope gpos) 0 (.ref it) .none cenv) []) [(a, go)]) [] H' b := fun {σ' H' s'} I' hn b hb =>
    ⟨hn b hb, (I'.ok.exf b hb).1, I'.ok.exfs b hb, .inl hb, fun x c e => (I'.ok.exf b hb).2 x c e, fun p hp => by
      have hp : p ∈ [(a, go)] ++ [] := hp
      rw [List.append_nil, List.mem_singleton] at hp
      subst hp
      exact Ne.symm (hfa b hb)⟩
  show Seg _ A2 _ _ _ s0 _ ((compTurn (.GeneratorExp elt [⟨tg, iter, ifs, 0⟩] scope gpos) 0 (.ref it) .none cenv).onRaise (leaving cenv)) [] s
  rw [compTurn_gen, Sem.onRaise_eq_wrap]
  refine seg_bind_wrap (wpAny_standAt ?_)
  rcases turn i m H w with ⟨stop, qq⟩ | ⟨hgo2, Nx, hNx, step⟩
  · have td := T.done (gxC X s3 H3 cenv fp (A2.over (.compLoop (.GeneratorExp elt [⟨tg, iter, ifs, 0⟩] scope gpos) 0 (.ref it) .none cenv) []) [(a, go)]) rfl rfl rfl hc i [] s _ H (fun _ _ => False) I (stat I nfp) st stop
    refine seg_bind_wrap (wpAny_mono td (fun r s6 ⟨hr, I6⟩ => ?_) fun _ _ e => e.elim)
    subst hr
    exact seg_end (.ok .next) ⟨rfl, H, gx_out hgo I6, qq⟩
  · have ti := T.item (gxC X s3 H3 cenv fp (A2.over (.compLoop (.GeneratorExp elt [⟨tg, iter, ifs, 0⟩] scope gpos) 0 (.ref it) .none cenv) []) [(a, go)]) rfl rfl rfl hc i [] s _ H (fun _ _ => False) I (stat I nfp) st hgo2
    refine seg_bind_wrap (wpAny_mono ti (fun r s6 ⟨u, hr, h6⟩ => ?_) fun _ _ e => e.elim)
    subst hr
    refine seg_bind_wrap (wpAny_mono h6 (fun _ s7 ⟨x, H7, I7, r7, y7, st7, n7⟩ => ?_) fun _ _ e => e.elim)
    have I7' := I7.pinned (stat I7 n7) (T.obj _ _ st7)
    refine seg_bind_wrap (wpAny_mono (pg.run _ s7 _ H7 x u _ I7' r7 (step x H7 y7)) (fun _ s8 ⟨σ8, H8, I8, hw8, q8⟩ => ?_) fun _ _ e => e.elim)
    refine seg_bind_wrap (wpAny_mono (pt.run _ s8 σ8 H8 _ I8 q8) (fun b s9 ⟨H9, I9, q9⟩ => ?_) fun _ _ e => e.elim)
    have fin : ∀ {s' : Shared} {H' : Hp}, Inv (gxC X s3 H3 cenv fp (A2.over (.compLoop (.GeneratorExp elt [⟨tg, iter, ifs, 0⟩] scope gpos) 0 (.ref it) .none cenv) []) [(a, go)]) ([] ++ pinsAt fp s7.heap) σ8 H' s' → Nx H' → ∃ m', m' < m ∧ ∀ n' s0', m' < n' → Seg (model X.prog X.w) A2 (fun n s0 r s1 => r = .ok .next ∧ gxR X s3 H3 fp a gi al Q n s0 s1) (gxY X s3 H3 fp a gi al Q) n' s0' (.compLoop (.GeneratorExp elt [⟨tg, iter, ifs, 0⟩] scope gpos) 0 (.ref it) .none cenv)
        ((model X.prog X.w).den (.compLoop (.GeneratorExp elt [⟨tg, iter, ifs, 0⟩] scope gpos) 0 (.ref it) .none cenv)) [] s' := fun {s' H'} I' nx => by
      obtain ⟨m', hm, w'⟩ := hNx H' nx
      have pin' : ∀ b ∈ fp, ∀ o, s7.heap.get? b = some o → s'.heap.get? b = some o ∧ H' b = none := fun b hb o e =>
        let z := I'.pin (b, o) (List.mem_append_right _ (List.mem_append_right _ (mem_pinsAt hb e)))
        ⟨z.1, z.2.1⟩
      have hl : (wipe σ vs).length = σ8.length := by rw [← hw8, wipe_length]
      refine ⟨m', hm, fun n' s0' hn => ih m' hm n' (i + 1) s' s0' H' hn ((I'.unpinned (pins := [])).weak hl (fun j v e => ?_)) (T.keep _ _ _ st7 fun b hb o e => (pin' b hb o e).1) (fun b hb => ?_) w'⟩
      · rw [← hw8] at e
        exact (wipe_some e).1
      · obtain ⟨o, e, _⟩ := T.obj _ _ st7 b hb
        exact (pin' b hb o e).2
    cases b with
    | false =>
      simp only [Bool.false_eq_true, if_false] at q9 ⊢
      obtain ⟨m', hm, hs⟩ := fin I9 q9
      exact seg_again rfl (hs n s0 (by omega))
    | true =>
      simp only [if_true] at q9 ⊢
      have hy : ∀ v, yieldOut cenv v = yieldValue v := fun v => by simp only [yieldOut, hco, Bool.false_eq_true, if_false]
      simp only [hy]
      rw [Sem.bind_eq_wrap', Sem.bind_eq_wrap', Sem.wrap_wrap, Sem.wrap_wrap]
      refine seg_wrap (wpAny_mono (pe.run _ s9 σ8 H9 _ I9 q9) (fun z s10 ⟨yv, H10, I10, r10, k, ey, qk⟩ => ?_) fun _ _ e => e.elim)
      subst ey
      cases r10
      obtain ⟨n', rfl⟩ : ∃ n', n = n' + 1 := ⟨n - 1, by omega⟩
      refine seg_at (seg_yield rfl rfl rfl ⟨k, H10, rfl, gx_out hgo I10, fun e => ?_, fun e s' e1 e2 e3 => ?_⟩)
      · subst e
        rw [if_neg (by cases al <;> simp)] at qk
        exact qk
      · rw [if_pos e] at qk
        obtain ⟨m', hm, hs⟩ := fin (Inv_regen I10 e1 e2 e3) qk
        exact seg_again rfl (hs n' s' (by omega))
end

/-! ### made, and eaten by all or any -/
def tGx (al : Bool) (P : Addr) (wi : TI) (g : Value → TG) (tt : Value → TT) (te : Value → TE) (vs : List Nat) : TE := fun σ H Q => wi σ H fun J H1 => GxR.TabG H1 P ∧ ∀ H2, GxR.Tabbed P H1 H2 → ∀ code, ∃ W : Nat → Nat → Hp → Prop, (∃ m, W 0 m H2) ∧ GxTurn J al (g code) (tt code) (te code) vs σ Q W
theorem over_gx {A : Around} {elt : Expr} {gs : List Comprehension} {scope : Scope} {gpos : Pos} {it : Addr} {cenv : Env} : A.over (.compLoop (.GeneratorExp elt gs scope gpos) 0 (.ref it) .none cenv) [] = A.deeper cenv := by
  first
    | rfl
    | (obtain ⟨hd, d, fr, gss, u⟩ := A; simp [Around.over, Around.deeper, marksOver, frameCount, unitsOf, envsOf, guardsOf, pushEnvs, pushGuards, Code.envs, Code.env?, Code.isFrame, Code.guards, Code.isGuard, Code.weight, Code.frames, Code.isCreation, Code.isCaller, Code.cUnits])
section
variable {X : Cx} {pins : List (Addr × Obj)} {σ : L2.St} {H : Hp} {s : Shared}
def GxZ (X : Cx) (s3 : Shared) (H3 : Hp) (fp : List Addr) (a : Addr) (gi : Nat) (al : Bool) (Q : VK) (m : Nat) (s : Shared) : Prop :=
  s.heap.IsGen a gi ∧ s.heap.NoLimit ∧ AllBare s.gens ∧ ∃ gs, s.gens[gi]? = some gs ∧ gs.Goes (model X.prog X.w) X.A.in1.in1 (fun n s0 r s1 => r = .ok .next ∧ gxR X s3 H3 fp a gi al Q n s0 s1) (gxY X s3 H3 fp a gi al Q) m (.send .none) (s.setGen gi .running)
theorem gx_step {s3 : Shared} {H3 : Hp} {fp : List Addr} {a : Addr} {gi : Nat} {al : Bool} {Q : VK} (hh : X.A.handled = none) (hroom : X.A.depth < recursionLimit) (I3 : Inv X pins σ H3 s3) (hfp : ∀ b ∈ fp, FpOk X pins H3 b) :
    ∀ m s, GxZ X s3 H3 fp a gi al Q m s → wpAny (model X.prog X.w) X.A.in1 (pyNext (.ref a)) (fun o s' => match o with
      | none => EP X pins σ Q (.bool al) s'
      | some v => ∃ k, v = .bool k ∧ if k = al then (∃ m', m' < m ∧ GxZ X s3 H3 fp a gi al Q m' s') else EP X pins σ Q (.bool (!al)) s') (fun _ _ => False) s := by
  intro m s ⟨hg, hl, hb, gs, hgs, hgo⟩
  have back : ∀ {H' : Hp} {s1 : Shared}, GxOut X s3 H3 fp a gi H' s1 → Inv X pins σ H' s1 := fun {H' s1} o => I3.call' (ch := fp) o.os o.un o.hok o.bare fun b hb => ⟨(hfp b hb).2.2.2.1, (hfp b hb).2.1, (hfp b hb).2.2.2.2.1, (hfp b hb).2.2.2.2.2⟩
  have hgl : gi < s.gens.size := (Array.getElem?_eq_some_iff.mp hgs).1
  refine wpAny_gsz (n := gi + 1) hgl (wpAny_pyNext_genexpQ (A := X.A.in1) hh hl hroom hg hgs hgo (fun v s1 gs' hbare hv => ?_) fun s1 hp h' hk => ?_)
  · intro hsz
    obtain ⟨k, H', rfl, out, q1, q2⟩ := hv
    refine ⟨k, rfl, ?_⟩
    have hb1 : AllBare (s1.setGen gi gs').gens := allBare_setGen out.bare hbare
    by_cases hk : k = al
    · rw [if_pos hk]
      have kap := q2 hk ((s1.setGen gi gs').setGen gi .running) rfl rfl (allBare_setGen hb1 rfl)
      cases m with
      | zero => exact kap.elim
      | succ m =>
        refine ⟨m, Nat.lt_succ_self m, out.gen, out.lim, hb1, gs', setGen_at ?_, kap⟩
        have q : (s1.setGen gi gs').gens.size = s1.gens.size := setGen_size _ _ _
        have hsz' : gi + 1 ≤ (s1.setGen gi gs').gens.size := hsz
        omega
    · rw [if_neg hk]
      exact ⟨.bl (!al), H', Inv_regen (back out) rfl rfl hb1, rfl, q1 (by cases k <;> cases al <;> simp_all)⟩
  · intro _
    obtain ⟨H', out, q⟩ := hp
    have hb1 : AllBare (s1.setGen gi .finished).gens := allBare_setGen out.bare rfl
    have I1 := Inv_regen (s' := s1.setGen gi .finished) (back out) rfl rfl hb1
    exact ⟨.bl al, H', I1.kept (t' := (s1.setGen gi .finished).toks) hk, rfl, q⟩
theorem gx_made {c P : Addr} {elt tg iter : Expr} {ifs : List Expr} {scope : Scope} {own : List (Str × Nat)} {gpos : Pos} {al : Bool} {Q : VK} {wi : TI} {g : Value → TG} {tt : Value → TT} {te : Value → TE} {Q' : Value → Shared → Prop}
    (hc : X.calm = true) (hN : X.N.Nodup) (hr : X.A.depth < recursionLimit) (TB : GxR.TabB X.base X.mg c P) (hcode : X.env.code = .ref c) (ok : GxOk X.N X.env.scope scope own) (hi : PI X tg iter wi)
    (hgte : ∀ (s : Shared) (H : Hp) (cl : List (Str × Addr)) (C : Addr) (code : Value) (fp : List Addr) (pn : List (Addr × Obj)), PG (gxC X s H (genEnv scope cl C code builtinsNs X.env) fp (X.A.in1.in1.deeper (genEnv scope cl C code builtinsNs X.env)) pn) tg (g code) ∧
      PTs (gxC X s H (genEnv scope cl C code builtinsNs X.env) fp (X.A.in1.in1.deeper (genEnv scope cl C code builtinsNs X.env)) pn) ifs (tt code) ∧ PE (gxC X s H (genEnv scope cl C code builtinsNs X.env) fp (X.A.in1.in1.deeper (genEnv scope cl C code builtinsNs X.env)) pn) elt (te code))
    (hs : ∀ v, genFold iter X.env v = pure v) (I : Inv X pins σ H s) (h : tGx al P wi g tt te (own.map (·.2)) σ H Q)
    (hQ : ∀ s3 H3 fp a gi m s5, Inv X pins σ H3 s3 → (∀ b ∈ fp, FpOk X pins H3 b) → GxZ X s3 H3 fp a gi al Q m s5 → Q' (.ref a) s5) :
    wpAny (model X.prog X.w) X.A (eval (.GeneratorExp elt [⟨tg, iter, ifs, 0⟩] scope gpos) X.env) Q' X.xe s := by
  have hfree : ∀ y ∈ scope.names, y.2 = .free → ∃ c, X.env.cells.lookup y.1 = some c := fun y hy e => by
    rcases ok.free y hy e with k | k
    · exact I.ok.has _ (.inl k)
    · exact I.ok.has _ (.inr k)
  refine wpAny_GeneratorExp_make ok.co (closure_ok hfree) ok.nocell ok.dot ok.kind hr (thn (hi.run pins s σ H _ I h) fun xv s1 hx => thn hx fun itv s2 h2 => ?_) hs
  obtain ⟨it, fp, tn, J, H1, rfl, I1, T, st1, f1, ⟨ps, hP, ht⟩, q⟩ := h2
  refine ⟨I1.nolimit, ?_⟩
  have hPs : s2.heap.get? P = some { cls := .none, data := .fields ps } := I1.hok P _ hP
  have hPlt : P < s2.heap.objs.size := Heap.lt_size hPs
  have cd : PySem.W.CodeHd s2.heap c P := TB.code.keeps I1.bk
  have fpP : ∀ b ∈ fp, b ≠ P := fun b hb z => by
    have := (f1 b hb).1
    rw [z, hP] at this; cases this
  have cont : ∀ (code : Value) (h3 : Heap) (tk : Nat) (ps' : Array Value), Heap.ExtBut P s2.heap h3 → s2.heap.objs.size ≤ h3.objs.size → h3.get? P = some { cls := .none, data := .fields ps' } → (∃ more, ps' = ps ++ more) → TriplesOk ps'.toList →
      wpAny (model X.prog X.w) X.A (builtinsFor X.env.globals X.env.builtins) (fun bi s₄ => ∀ h', h'.Ns s₄.heap.objs.size (fun y => if y = ".0" then some (.ref it) else none) → Heap.SameBut s₄.heap.objs.size (s₄.heap.push { cls := .type "frame", data := .dict #[] }) h' →
          Q' (.ref h'.objs.size) { s₄ with
            gens := s₄.gens.push (.fresh (.compStart (.GeneratorExp elt [⟨tg, iter, ifs, 0⟩] scope gpos) 0 (.ref it) .none (genEnv scope (cloFrom X.env.cells scope.names []) s₄.heap.objs.size code bi X.env))),
            toks := s₄.toks + 1 + 1 + 1,
            heap := h'.push { cls := .type "generator", data := .fields #[.int s₄.gens.size 0, .str "<genexpr>" (s₄.toks + 1), .str (X.env.qual ++ "<genexpr>") (s₄.toks + 1 + 1)] } }) X.xe { s2 with heap := h3, toks := tk } := by
    intro code h3 tk ps' hx hsz hP3 hmore ht3
    obtain ⟨bm, ob, e1, e2, e3, e4, e5, e6, e7, e8⟩ := TB.bm
    have keep3 : ∀ b u, b ≠ P → s2.heap.get? b = some u → h3.get? b = some u := fun b u hb e => hx b u hb e
    refine wpAny_builtinsFor (m := X.mg) (by rw [I1.ok.glob]; exact (I1.mod.glob.keeps I1.bk).extBut hx TB.gP) e1 e2 (keep3 _ _ e4 (I1.bk _ _ e5)) e6 e7 e8 ?_
    obtain ⟨more, rfl⟩ := hmore
    have I3 := GxR.inv_tab (more := more) (h' := h3) (g' := s2.gens) (d' := s2.drawn) (t' := tk) I1 hP keep3 hP3 I1.bare
    obtain ⟨W, ⟨m0, w0⟩, turn⟩ := q (upd H1 P (.tbl (ps ++ more))) ⟨⟨_, upd_same, ht3⟩, fun b hb => upd_ne hb⟩ code
    have f3 : ∀ b ∈ fp, FpOk X pins (upd H1 P (.tbl (ps ++ more))) b := fun b hb => ⟨by rw [upd_ne (fpP b hb)]; exact (f1 b hb).1, (f1 b hb).2⟩
    have st3 : tn 0 h3 := T.keep _ _ _ st1 fun b hb o e => keep3 b o (fpP b hb) e
    have fl : ∀ b ∈ fp, b < h3.objs.size := fun b hb => by
      obtain ⟨o, e, _⟩ := T.obj _ _ st3 b hb
      exact Heap.lt_size e
    intro h' hn' hs'
    have hsz' : h'.objs.size = h3.objs.size + 1 := by rw [hs'.1, Heap.size_push]
    have keep' : ∀ b o, h3.get? b = some o → h'.get? b = some o := fun b o e => hs'.extBut b o (Nat.ne_of_lt (Heap.lt_size e)) (Heap.get?_push_of_some _ e)
    generalize hgob : ({ cls := .type "generator", data := .fields #[.int s2.gens.size 0, .str "<genexpr>" (tk + 1), .str (X.env.qual ++ "<genexpr>") (tk + 1 + 1)] } : Obj) = gob
    have hkgo : ∃ nm qn, gob = { cls := .type "generator", dict := none, data := .fields #[.int s2.gens.size 0, nm, qn], slots := #[] } ∧ ∀ h : Heap, h.get? h'.objs.size = some gob → h.IsGen h'.objs.size s2.gens.size :=
      ⟨_, _, hgob.symm, fun h e => by rw [← hgob] at e; exact ⟨_, _, _, e, rfl, rfl, rfl⟩⟩
    have hb5 : AllBare (s2.gens.push (.fresh (.compStart (.GeneratorExp elt [⟨tg, iter, ifs, 0⟩] scope gpos) 0 (.ref it) .none (genEnv scope (cloFrom X.env.cells scope.names []) h3.objs.size code builtinsNs X.env)))) := I1.bare.push rfl
    have I5 := gx_start (scope := scope) (own := own) (fp := fp) (code := code) (A' := X.A.in1.in1.over (.compLoop (.GeneratorExp elt [⟨tg, iter, ifs, 0⟩] scope gpos) 0 (.ref it) .none (genEnv scope (cloFrom X.env.cells scope.names []) h3.objs.size code builtinsNs X.env)) [])
      (h5 := h'.push gob) (tk := tk + 1 + 1 + 1) (go := gob) (a := h'.objs.size) I3 ok hN (fun b hb => ⟨f3 b hb, fl b hb⟩) (by rw [over_gx]; exact Around.frames_deeper I.ok.frames) (fun hc => I.ok.hd hc) (fun b o e => Heap.get?_push_of_some _ (keep' b o e)) (hn'.push _) hb5 (by rw [← hgob]; exact Heap.get?_push_size _ rfl) (by rw [hsz']; exact Nat.lt_succ_self _) (fun v z => by rw [← hgob] at z; cases z)
    refine hQ _ _ fp h'.objs.size s2.gens.size (m0 + 1) _ I3 f3 ⟨(by obtain ⟨_, _, _, hk9⟩ := hkgo; exact hk9 _ (by rw [← hgob]; exact Heap.get?_push_size _ rfl)), I5.nolimit, hb5, _, Array.getElem?_push_size .., rfl, ?_⟩
    obtain ⟨pg, pt, pe⟩ := hgte { s2 with heap := h3, toks := tk } (upd H1 P (.tbl (ps ++ more))) (cloFrom X.env.cells scope.names []) h3.objs.size code fp [(h'.objs.size, gob)]
    rw [← over_gx (A := X.A.in1.in1) (elt := elt) (gs := [⟨tg, iter, ifs, 0⟩]) (scope := scope) (gpos := gpos) (it := it)] at pg pt pe
    have hnf : ∀ b ∈ fp, (upd H1 P (.tbl (ps ++ more))) b = none := fun b hb => (f3 b hb).1
    have st5 : tn 0 (h'.push gob) := T.keep _ _ _ st3 fun b _ o e => Heap.get?_push_of_some _ (keep' b o e)
    have loop := gx_seg (A2 := X.A.in1.in1) (al := al) (Q := Q) (gpos := gpos) (scope := scope) (iter := iter) (it := it) (gi := s2.gens.size) hc (show (genEnv scope (cloFrom X.env.cells scope.names []) h3.objs.size code builtinsNs X.env).scope.isCoroutine = false from ok.co) hkgo T pg pt pe (fun b hb z => by have q9 := fl b hb; rw [z, hsz'] at q9; exact absurd q9 (Nat.not_lt.mpr (Nat.le_succ _))) turn
    generalize hss : Shared.setGen _ s2.gens.size .running = ss
    have I6 : Inv _ [] (wipe σ (own.map (·.2))) (upd H1 P (.tbl (ps ++ more))) ss := Inv_regen I5 (by rw [← hss]; rfl) (by rw [← hss]; rfl) (by rw [← hss]; exact allBare_setGen hb5 rfl)
    have st6 : tn 0 ss.heap := by rw [← hss]; exact st5
    have loop := loop m0 (m0 + 1) 0 ss ss _ (Nat.lt_succ_self _) I6 st6 hnf w0
    show Seg _ X.A.in1.in1 _ _ _ ss _ ((compStart (.GeneratorExp elt [⟨tg, iter, ifs, 0⟩] scope gpos) 0 (.ref it) .none (genEnv scope (cloFrom X.env.cells scope.names []) h3.objs.size code builtinsNs X.env)).onRaise (leaving _)) [] ss
    unfold compStart
    rw [Sem.onRaise_eq_wrap]
    show Seg _ X.A.in1.in1 _ _ _ ss _ ((ask >>= _).wrap _ _ _ _) [] ss
    refine seg_bind_wrap (wpAny_askSetting ?_)
    split
    · exact seg_again rfl loop
    · first
        | exact seg_bind_wrap (wpAny_rule (seg_bind_wrap (wpAny_standAt (seg_bind_wrap (T.self _ 0 ss _ _ st6 (seg_again rfl loop))))))
        | (refine seg_bind_wrap (wpAny_rule ?_); show Seg _ X.A.in1.in1 _ _ _ ss _ ((standAt iter.pos >>= _).wrap _ _ _ _) [] ss; exact seg_bind_wrap (wpAny_standAt (seg_bind_wrap (T.self _ 0 ss _ _ st6 (seg_again rfl loop)))))
  cases hf : codeAmong gpos ps.toList with
  | none =>
    refine wpAny_genexprCodeX hcode (cd.code hPs ht) (cd.tab hPs) hf fun c' h' tk hx hge hlt hco' _ htab' _ => ?_
    obtain ⟨o1, vs, f1', tf, fl, tg', inF, tx, tt', op, _, _, _, _, _, _, _, _, _, htr, _⟩ := hco'
    exact cont _ h' tk _ hx (Nat.le_trans hge (Nat.le_of_lt hlt)) htab'.2 ⟨_, rfl⟩ htr
  | some cv =>
    refine wpAny_genexprCode_hit hcode (cd.code hPs ht) hf ?_
    exact cont cv s2.heap s2.toks ps (Heap.ExtBut.refl _ _) (Nat.le_refl _) hPs ⟨#[], by simp⟩ ht
end

section
variable {X : Cx}
theorem pe_gxAll {c P : Addr} {elt tg iter : Expr} {ifs : List Expr} {scope : Scope} {own : List (Str × Nat)} {p pos gpos : Pos} {wi : TI} {g : Value → TG} {tt : Value → TT} {te : Value → TE} {k : Nat}
    (hc : X.calm = true) (hN : X.N.Nodup) (hr : Room k X.A) (hg : Gl X "all") (hm : X.mg "all" = none) (TB : GxR.TabB X.base X.mg c P) (hcode : X.env.code = .ref c) (ok : GxOk X.N X.env.scope scope own) (hi : PI X tg iter wi)
    (hgte : ∀ (s : Shared) (H : Hp) (cl : List (Str × Addr)) (C : Addr) (code : Value) (fp : List Addr) (pn : List (Addr × Obj)), PG (gxC X s H (genEnv scope cl C code builtinsNs X.env) fp (X.A.in1.in1.deeper (genEnv scope cl C code builtinsNs X.env)) pn) tg (g code) ∧
      PTs (gxC X s H (genEnv scope cl C code builtinsNs X.env) fp (X.A.in1.in1.deeper (genEnv scope cl C code builtinsNs X.env)) pn) ifs (tt code) ∧ PE (gxC X s H (genEnv scope cl C code builtinsNs X.env) fp (X.A.in1.in1.deeper (genEnv scope cl C code builtinsNs X.env)) pn) elt (te code))
    (hs : ∀ v, genFold iter X.env v = pure v) (he : starEach [.GeneratorExp elt [⟨tg, iter, ifs, 0⟩] scope gpos] X.env = (false, eval (.GeneratorExp elt [⟨tg, iter, ifs, 0⟩] scope gpos) X.env) :: starEach [] X.env) :
    PE X (.Call (.Name "all" p) [.GeneratorExp elt [⟨tg, iter, ifs, 0⟩] scope gpos] [] pos) (tGx true P wi g tt te (own.map (·.2))) := by
  refine ⟨fun pins s σ H Q I h => ?_⟩
  refine wpAny_Call_Name_kw (ld_blt I hg hm boot_all ?_)
  refine PyProof.Rows.callWith_builtin1 ?_ he (by rfl)
  rw [he]
  show wpAny _ _ (spliced ((false, eval (.GeneratorExp elt [⟨tg, iter, ifs, 0⟩] scope gpos) X.env) :: backTo pos (starEach [] X.env))) _ _ s
  have hd : X.A.depth < recursionLimit := by have := hr.dp; omega
  refine Calls.spliced_cons (gx_made (al := true) (Q := Q) hc hN hd TB hcode ok hi hgte hs I h fun s3 H3 fp a gi m s5 I3 f3 Z => ?_)
  refine Calls.spliced_nil ?_
  refine call_allI Z.1 (all_loopI (GxZ X s3 H3 fp a gi true Q) (fun m s hz => wpAny_mono (gx_step hr.hd hd I3 f3 m s hz) (fun o s' q => ?_) fun _ _ e => e) m s5 Z)
  cases o with
  | none => exact q
  | some v => exact q
theorem pe_gxAny {c P : Addr} {elt tg iter : Expr} {ifs : List Expr} {scope : Scope} {own : List (Str × Nat)} {p pos gpos : Pos} {wi : TI} {g : Value → TG} {tt : Value → TT} {te : Value → TE} {k : Nat}
    (hc : X.calm = true) (hN : X.N.Nodup) (hr : Room k X.A) (hg : Gl X "any") (hm : X.mg "any" = none) (TB : GxR.TabB X.base X.mg c P) (hcode : X.env.code = .ref c) (ok : GxOk X.N X.env.scope scope own) (hi : PI X tg iter wi)
    (hgte : ∀ (s : Shared) (H : Hp) (cl : List (Str × Addr)) (C : Addr) (code : Value) (fp : List Addr) (pn : List (Addr × Obj)), PG (gxC X s H (genEnv scope cl C code builtinsNs X.env) fp (X.A.in1.in1.deeper (genEnv scope cl C code builtinsNs X.env)) pn) tg (g code) ∧
      PTs (gxC X s H (genEnv scope cl C code builtinsNs X.env) fp (X.A.in1.in1.deeper (genEnv scope cl C code builtinsNs X.env)) pn) ifs (tt code) ∧ PE (gxC X s H (genEnv scope cl C code builtinsNs X.env) fp (X.A.in1.in1.deeper (genEnv scope cl C code builtinsNs X.env)) pn) elt (te code))
    (hs : ∀ v, genFold iter X.env v = pure v) (he : starEach [.GeneratorExp elt [⟨tg, iter, ifs, 0⟩] scope gpos] X.env = (false, eval (.GeneratorExp elt [⟨tg, iter, ifs, 0⟩] scope gpos) X.env) :: starEach [] X.env) :
    PE X (.Call (.Name "any" p) [.GeneratorExp elt [⟨tg, iter, ifs, 0⟩] scope gpos] [] pos) (tGx false P wi g tt te (own.map (·.2))) := by
  refine ⟨fun pins s σ H Q I h => ?_⟩
  refine wpAny_Call_Name_kw (ld_blt I hg hm boot_any ?_)
  refine PyProof.Rows.callWith_builtin1 ?_ he (by rfl)
  rw [he]
  show wpAny _ _ (spliced ((false, eval (.GeneratorExp elt [⟨tg, iter, ifs, 0⟩] scope gpos) X.env) :: backTo pos (starEach [] X.env))) _ _ s
  have hd : X.A.depth < recursionLimit := by have := hr.dp; omega
  refine Calls.spliced_cons (gx_made (al := false) (Q := Q) hc hN hd TB hcode ok hi hgte hs I h fun s3 H3 fp a gi m s5 I3 f3 Z => ?_)
  refine Calls.spliced_nil ?_
  refine call_anyI Z.1 (any_loopI (GxZ X s3 H3 fp a gi false Q) (fun m s hz => wpAny_mono (gx_step hr.hd hd I3 f3 m s hz) (fun o s' q => ?_) fun _ _ e => e) m s5 Z)
  cases o with
  | none => exact q
  | some v => exact q
end

/-! ### over typed data -/
def Stat.gx (S : Stat) (scope : Scope) (code : Value) : Stat := { S with sc := scope, fn := fun _ => false, k := S.k - 3, code := code, qual := S.qual ++ "<genexpr>." }
theorem IsCx.gx {S : Stat} {X : Cx} (hX : IsCx S X) (hk : 3 ≤ S.k) (s : Shared) (H : Hp) (scope : Scope) (cl : List (Str × Addr)) (C : Addr) (code : Value) (fp : List Addr) (pn : List (Addr × Obj)) :
    IsCx (S.gx scope code) (gxC X s H (genEnv scope cl C code builtinsNs X.env) fp (X.A.in1.in1.deeper (genEnv scope cl C code builtinsNs X.env)) pn) where
  prog := hX.prog
  w := hX.w
  K := hX.K
  mg := hX.mg
  base := hX.base
  N := hX.N
  sc := rfl
  fn := rfl
  room := by
    have h := hX.room
    obtain ⟨k, hk⟩ : ∃ k, S.k = k + 3 := ⟨S.k - 3, by omega⟩
    rw [hk] at h
    show Room (S.k - 3) _
    rw [hk]
    exact (Room.in1 (Room.in1 h)).deeper _
  calm := hX.calm
  code := rfl
  xe := rfl
  qual := by
    show X.env.qual ++ "<genexpr>." = S.qual ++ "<genexpr>."
    rw [hX.qual]
def gxB (N : List Str) (sc scope : Scope) (own : List (Str × Nat)) : Bool := blkC N sc scope own && (!scope.isCoroutine && ((scope.names.all fun y => match y.2 with | .cell => false | _ => true) && decide (scope.names.lookup (".0" : Str) = some .local)))
theorem gxOk_by {N : List Str} {sc scope : Scope} {own : List (Str × Nat)} (h : gxB N sc scope own = true) : GxOk N sc scope own := by
  unfold gxB at h
  simp only [Bool.and_eq_true, Bool.not_eq_true', List.all_eq_true, decide_eq_true_eq] at h
  obtain ⟨h1, h2, h3, h4⟩ := h
  refine ⟨blkOk_by h1, h2, fun y hy e => ?_, h4⟩
  have := h3 y hy
  rw [e] at this
  cases this
/-- all and any over what may fail; a turn that does not pass is none -/
def quantM {α : Type} (al : Bool) (f : α → Option (Option Bool)) : List α → Option Bool
  | [] => some al
  | x :: xs => (f x).bind fun r => if r = some (!al) then some (!al) else quantM al f xs
section
variable {S : Stat} {γ : Gm} {σ : L2.St} {H F : Hp}
theorem AtH.gx (scope : Scope) (code : Value) (h : AtH S H F) : AtH (S.gx scope code) H F := ⟨h.ext, h.hf, h.f0, h.new, h.tabs⟩
theorem Own.gx (scope : Scope) (code : Value) {a : Addr} {d : PyData} (h : Own S H F a d) : Own (S.gx scope code) H F a d := by
  cases d <;> first | exact h | exact h.elim
theorem At.gx (scope : Scope) (code : Value) (h : At S γ σ H F) : At (S.gx scope code) γ σ H F where
  toAtH := h.toAtH.gx scope code
  len := h.len
  lk := h.lk
  sh := h.sh
  ow := fun i d e => let ⟨a, h1, h2⟩ := h.ow i d e; ⟨a, h1, Own.gx scope code h2⟩
  apart := h.apart
theorem ext_tabbed {P : Addr} {H H2 : Hp} (hT : GxR.TabG H P) (t : GxR.Tabbed P H H2) (hd : (∀ p ∈ S.tabs.T, p.1 ≠ P) ∧ P ∉ S.tabs.N) : Ext S.tabs H H2 := by
  have kp : ∀ a o, H a = some o → (∀ ps, o ≠ .tbl ps) → H2 a = some o := fun a o e n => by
    by_cases ha : a = P
    · obtain ⟨ps, h1, _⟩ := hT
      rw [ha, h1] at e
      exact absurd (Option.some.inj e).symm (n ps)
    · rw [t.2 a ha]; exact e
  have tb : ∀ a ps, H a = some (.tbl ps) → ∃ ps', H2 a = some (.tbl ps') ∧ (TriplesOk ps.toList → TriplesOk ps'.toList) := fun a ps e => by
    by_cases ha : a = P
    · obtain ⟨ps', h1, h2⟩ := t.1
      exact ⟨ps', by rw [ha]; exact h1, fun _ => h2⟩
    · exact ⟨ps, by rw [t.2 a ha]; exact e, id⟩
  refine ⟨kp, tb, fun l => ⟨fun p hp => ?_, fun Q hQ => ?_⟩⟩
  · obtain ⟨ps, h1, h2, h3⟩ := l.1 p hp
    refine ⟨ps, by rw [t.2 _ (hd.1 p hp)]; exact h1, h2, fun pos cv hv => ?_⟩
    obtain ⟨c, e1, e2⟩ := h3 pos cv hv
    exact ⟨c, e1, kp _ _ e2 LamX.codeO_ne⟩
  · obtain ⟨ps, h1, h2, h3⟩ := l.2 Q hQ
    refine ⟨ps, by rw [t.2 _ (fun z => hd.2 (z ▸ hQ))]; exact h1, h2, fun pos cv hv => ?_⟩
    obtain ⟨c, P', e1, e2, ps', e3, e4⟩ := h3 pos cv hv
    obtain ⟨ps2, f1, f2⟩ := tb _ _ e3
    exact ⟨c, P', e1, kp _ _ e2 (fun ps z => by unfold CodeT at z; cases z), ps2, f1, f2 e4.1, e4.2⟩
variable {tg iter elt : Expr} {ifs : List Expr} {scope : Scope} {own : List (Str × Nat)} {p pos gpos : Pos} {τ : Type} {encA : τ → PyData} {xs : List τ} {f : τ → Option (Option Bool)} {k al : Bool} {c P : Addr}
theorem gx_read (hi : IX S γ tg iter (xs.map encA)) (hP : P ∈ S.tabs.G) (hb : ∀ code, ∀ x ∈ xs, CBO (S.gx scope code) (wipeG γ (own.map (·.2))) tg ifs elt (own.map (·.2)) (encA x) eB (f x)) (hr : quantM al f xs = some k) (at_ : At S γ σ H F) {Q : VK}
    (q : ∀ H' F', At S γ σ H' F' → Ex2 S.tabs H F H' F' → Q (.bl k) H') :
    tGx al P (wI S tg iter) (fun code => wG (S.gx scope code) tg) (fun code => tTs (S.gx scope code) ifs) (fun code => wE (S.gx scope code) elt) (own.map (·.2)) σ H Q := by
  refine hi σ H F at_ _ fun J H1 F1 a1 x1 hz w => ⟨a1.tabs.1 P hP, fun H2 t code => ?_⟩
  have e12 : Ext S.tabs H1 H2 := ext_tabbed (a1.tabs.1 P hP) t (S.tabs.dG P hP)
  have x12 : Ex2 S.tabs H1 F1 H2 F1 := ⟨e12, Le.refl F1, fun a o h n => by rw [n] at h; cases h⟩
  have hf2 : HF H2 F1 := ⟨a1.hf.ext e12, a1.hf.ntb⟩
  refine ⟨fun i m H3 => ∃ F3, At S γ σ H3 F3 ∧ Ex2 S.tabs H1 F1 H3 F3 ∧ quantM al f (xs.drop i) = some k ∧ m = xs.length - i ∧ i ≤ xs.length, ⟨xs.length, F1, a1.ex x12 hf2, x12, hr, rfl, Nat.zero_le _⟩, ?_⟩
  rintro i m H3 ⟨F3, a3, x3, hq, hm, hile⟩
  by_cases hi : i < xs.length
  · have hil : i < (xs.map encA).length := by rw [List.length_map]; exact hi
    refine .inr ⟨w.goes i H3 hil x3.h, fun H' => ∃ F', At S γ σ H' F' ∧ Ex2 S.tabs H1 F1 H' F' ∧ quantM al f (xs.drop (i + 1)) = some k, fun H' ⟨F', b1, b2, b3⟩ => ⟨xs.length - (i + 1), by omega, F', b1, b2, b3, rfl, hi⟩, fun x H4 hy => ?_⟩
    obtain ⟨d, hd, hyd⟩ := w.yields i H3 x H4 hil x3.h hy
    have hx : xs[i]? = some xs[i] := List.getElem?_eq_getElem hi
    obtain rfl : encA xs[i] = d := by rw [List.getElem?_map, hx] at hd; exact Option.some.inj hd
    rw [List.drop_eq_getElem_cons hi] at hq
    unfold quantM at hq
    obtain ⟨r, hr1, hr2⟩ := Option.bind_eq_some_iff.mp hq
    obtain ⟨γ2, is, kk, g, hsub, ts, kf, kt⟩ := hb code xs[i] (List.getElem_mem hi) r hr1
    obtain ⟨F4, a4, x4, dx⟩ : ∃ F4, At S γ σ H4 F4 ∧ Ex2 S.tabs H3 F3 H4 F4 ∧ Dp S.K F4 x (encA xs[i]) := by
      rcases hyd with ⟨e1, dx⟩ | ⟨T, ys, ds, hT, e1, e2, e3, dx⟩
      · subst e1
        exact ⟨F3, a3, Ex2.refl _ _, dx.zmono x3.f⟩
      · subst e1; subst e2
        have x5 : Ex2 S.tabs H3 F3 (upd H3 T (.tup ys)) (upd F3 T (.tup ys)) := ex_new a3.hf hT
        refine ⟨_, a3.ex x5 (a3.hf.new hT fun _ z => by cases z), x5, ?_⟩
        rw [e3]
        exact .tup (SqT.of upd_same) (dx.zmono (x3.trans x5).f)
    refine g _ H4 F4 x ((a4.wipe _).gx scope code) dx _ fun σ2 b2 l2 n2 => ⟨wipe_ext l2 n2 hsub, ?_⟩
    have fin : ∀ {H5 F5 : Hp}, At (S.gx scope code) γ2 σ2 H5 F5 → Ex2 S.tabs H4 F4 H5 F5 → if kk = true then wE (S.gx scope code) elt σ2 H5 fun y H6 => ∃ b : Bool, y = .bl b ∧ if b = al then (∃ F', At S γ σ H6 F' ∧ Ex2 S.tabs H1 F1 H6 F' ∧ quantM al f (xs.drop (i + 1)) = some k) else Q (.bl (!al)) H6
        else (∃ F', At S γ σ H5 F' ∧ Ex2 S.tabs H1 F1 H5 F' ∧ quantM al f (xs.drop (i + 1)) = some k) := by
      intro H5 F5 b5 x5
      cases kk with
      | true =>
        rw [if_pos rfl]
        obtain ⟨d', eo, ed⟩ := kt rfl
        obtain ⟨b, er, rfl⟩ : ∃ b, r = some b ∧ d' = .bool b := by
          cases r with
          | none => cases eo
          | some b => exact ⟨b, rfl, (Option.some.inj eo).symm⟩
        refine ed σ2 H5 F5 b5 _ fun y H6 F6 b6 x6 dy => ?_
        cases dy
        refine ⟨b, rfl, ?_⟩
        have x56 := x5.trans x6
        by_cases hba : b = al
        · rw [if_pos hba]
          rw [er, if_neg (by rw [hba]; cases al <;> simp)] at hr2
          exact ⟨F6, a4.ex x56 b6.hf, (x3.trans x4).trans x56, hr2⟩
        · rw [if_neg hba]
          have hbn : b = !al := by cases b <;> cases al <;> simp_all
          rw [er, if_pos (by rw [hbn])] at hr2
          cases hr2
          exact q H6 F6 (a4.ex x56 b6.hf) (x1.trans ((x3.trans x4).trans x56))
      | false =>
        rw [if_neg Bool.false_ne_true]
        obtain rfl : r = none := by
          have := kf rfl
          cases r with
          | none => rfl
          | some b => cases this
        rw [if_neg (by simp)] at hr2
        exact ⟨F5, a4.ex x5 b5.hf, (x3.trans x4).trans x5, hr2⟩
    rcases ts with ⟨e1, e2⟩ | ⟨cc, e1, tc⟩
    · subst e1
      have := fin b2 (Ex2.refl _ _)
      rw [e2] at this
      exact this
    · subst e1
      exact tc σ2 H4 F4 b2 _ fun H5 F5 b5 x5 => fin b5 x5
  · rw [List.drop_eq_nil_of_le (by omega)] at hq
    cases hq
    have e9 : i = xs.length := by omega
    refine .inl ⟨?_, q H3 F3 a3 (x1.trans x3)⟩
    have := w.stops H3 x3.h
    rw [List.length_map, ← e9] at this
    exact this
theorem pts_gx {X : Cx} {S : Stat} {ifs : List Expr} (hX : IsCx S X) (hl : ifs.length ≤ 1) : PTs X ifs (tTs S ifs) := pts_w hX hl
theorem e_gxAll (hk : 3 ≤ S.k) (hc : S.code = .ref c) (hP : P ∈ S.tabs.G) (TB : GxR.TabB S.base S.mg c P) (hg : IsGl S "all") (hm : S.mg "all" = none) (hi : IX S γ tg iter (xs.map encA))
    (hb : ∀ code, ∀ x ∈ xs, CBO (S.gx scope code) (wipeG γ (own.map (·.2))) tg ifs elt (own.map (·.2)) (encA x) eB (f x)) (hr : quantM true f xs = some k) (hN : S.N.Nodup) (ok : gxB S.N S.sc scope own = true) (h1 : ifs.length ≤ 1) (hs : ∀ (X : Cx) v, genFold iter X.env v = pure v)
    (he : ∀ X : Cx, starEach [.GeneratorExp elt [⟨tg, iter, ifs, 0⟩] scope gpos] X.env = (false, eval (.GeneratorExp elt [⟨tg, iter, ifs, 0⟩] scope gpos) X.env) :: starEach [] X.env) :
    EJ S γ (.Call (.Name "all" p) [.GeneratorExp elt [⟨tg, iter, ifs, 0⟩] scope gpos] [] pos) (.bool k) := fun σ H F at_ Q q =>
  wE_of (fun X hX => pe_gxAll hX.calm (by rw [hX.N]; exact hN) hX.room (hX.gl hg) (hX.mgn hm) (by rw [hX.base, hX.mg]; exact TB) (by rw [hX.code]; exact hc) (by rw [hX.N, hX.sc]; exact gxOk_by ok) (pi_w hX)
      (fun s H cl C code fp pn => ⟨pg_w (hX.gx hk s H scope cl C code fp pn), pts_gx (hX.gx hk s H scope cl C code fp pn) h1, pe_w (hX.gx hk s H scope cl C code fp pn)⟩) (hs X) (he X))
    (gx_read hi hP hb hr at_ fun H' F' a1 x1 => q (.bl k) H' F' a1 x1 (.bl k))
theorem e_gxAny (hk : 3 ≤ S.k) (hc : S.code = .ref c) (hP : P ∈ S.tabs.G) (TB : GxR.TabB S.base S.mg c P) (hg : IsGl S "any") (hm : S.mg "any" = none) (hi : IX S γ tg iter (xs.map encA))
    (hb : ∀ code, ∀ x ∈ xs, CBO (S.gx scope code) (wipeG γ (own.map (·.2))) tg ifs elt (own.map (·.2)) (encA x) eB (f x)) (hr : quantM false f xs = some k) (hN : S.N.Nodup) (ok : gxB S.N S.sc scope own = true) (h1 : ifs.length ≤ 1) (hs : ∀ (X : Cx) v, genFold iter X.env v = pure v)
    (he : ∀ X : Cx, starEach [.GeneratorExp elt [⟨tg, iter, ifs, 0⟩] scope gpos] X.env = (false, eval (.GeneratorExp elt [⟨tg, iter, ifs, 0⟩] scope gpos) X.env) :: starEach [] X.env) :
    EJ S γ (.Call (.Name "any" p) [.GeneratorExp elt [⟨tg, iter, ifs, 0⟩] scope gpos] [] pos) (.bool k) := fun σ H F at_ Q q =>
  wE_of (fun X hX => pe_gxAny hX.calm (by rw [hX.N]; exact hN) hX.room (hX.gl hg) (hX.mgn hm) (by rw [hX.base, hX.mg]; exact TB) (by rw [hX.code]; exact hc) (by rw [hX.N, hX.sc]; exact gxOk_by ok) (pi_w hX)
      (fun s H cl C code fp pn => ⟨pg_w (hX.gx hk s H scope cl C code fp pn), pts_gx (hX.gx hk s H scope cl C code fp pn) h1, pe_w (hX.gx hk s H scope cl C code fp pn)⟩) (hs X) (he X))
    (gx_read hi hP hb hr at_ fun H' F' a1 x1 => q (.bl k) H' F' a1 x1 (.bl k))
end
end SM

set_option autoImplicit false
set_option Elab.async false
set_option linter.all false
set_option maxRecDepth 100000
set_option maxHeartbeats 4000000
namespace SM
open PySem PySem.Spec PyProof.Rows L2

/-! ### defs whose code has a table -/
def FunC (K : PySem.W.Frag) (x qual : Str) (st : Stmt) (f : Addr) (fd : FuncData) (c : Addr) : Prop :=
  (∃ oc od kV doc pm an ct osl, fd = PySem.W.fnOf x qual (defArgs st) (defBody st) (defScope st) .none kV doc pm an (.ref c) ct ∧ K.lookup f = some ⟨oc, od, .func fd, osl⟩ ∧ PySem.W.codeIn K (.ref c) qual = true) ∧ PySem.W.keepIn K (.ref f) = true
theorem FunC.fn {K : PySem.W.Frag} {x qual : Str} {st : Stmt} {f c : Addr} {fd : FuncData} (h : FunC K x qual st f fd c) : Fun K x qual st f fd := by
  obtain ⟨⟨oc, od, kV, doc, pm, an, ct, osl, e, lk, hcd⟩, kp⟩ := h
  exact ⟨⟨oc, od, kV, doc, pm, an, .ref c, ct, osl, e, lk, hcd⟩, kp⟩
theorem body_run {P : Program} {w : World} {K : PySem.W.Frag} {mg : Str → Option Value} {base : Heap} {qual : Str} {st : Stmt} {f : Addr} {N ps : List Str} {k : Nat} {tabs : Tbs} {R : List PyData → PyData → Prop} (Sc : FnScope N ps (defScope st)) (cdv : Value) {A : Around} {outer : List Env} {s : Shared} {H : Hp} {vs : List V} {Q : VK} {E : XK}
    (hbody : ∀ (B F0 : Hp) (ds : List PyData) (r : PyData), ds.length = ps.length → R ds r → SJ (Stat.of P w K mg base N (defScope st) k tabs cdv B F0 qual) (gm0 N.length ds) (defBody st) ⟨fun _ => r = .none, fun d => d = r⟩)
    (hr : Room k (A.deeper (envOfC qual (defScope st) s.heap.objs.size f cdv))) (h : spR K tabs ps.length R vs H Q E) :
    ∃ t, PSs (cxOf CX0 P w K mg base N qual (defScope st) f cdv A outer s H E).nox (defBody st) t ∧ t { nx := fun _ H' => Q .non H', rt := Q } (L2.start N vs) H := by
  obtain ⟨hl, F, ds, r, hf, tb, dv, hR, q⟩ := h
  have hX : IsCx (Stat.of P w K mg base N (defScope st) k tabs cdv H F qual) (cxOf CX0 P w K mg base N qual (defScope st) f cdv A outer s H E).nox :=
    ⟨rfl, rfl, rfl, rfl, rfl, rfl, rfl, rfl, hr, rfl, rfl, rfl, rfl⟩
  have hlen : ds.length = ps.length := dv.zlen ▸ hl
  have hpl : ps.length ≤ N.length := by
    have := congrArg List.length Sc.pre
    rw [List.length_take] at this
    omega
  refine ⟨_, pss_w hX, hbody H F ds r hlen hR (L2.start N vs) H F ⟨⟨Ext.refl H, hf, Le.refl F, (fun a o e n => by have n' : F a = none := n; rw [n'] at e; cases e), tb⟩, ?_, fun i d e => ?_, fun i d e => ?_, fun i j d e a h1 => ?_, fun i n kvs h1 => ?_⟩ _ ?_ ?_⟩
  · unfold L2.start gm0
    rw [List.length_append, List.length_append, List.length_map, List.length_map, List.length_replicate, List.length_replicate, dv.zlen]
  · unfold gm0 at e
    unfold L2.start
    rw [dv.zlen]
    exact dp_start dv i d e
  · exact absurd e gm0_ow
  · exact absurd h1 gm0_ow
  · exact absurd h1 gm0_lk
  · rintro γ' σ' H' F' hn a1 le
    refine q .non H' F' ⟨a1.ext, a1.f0, a1.new⟩ a1.hf ?_
    have : r = .none := hn
    rw [this]; exact .non
  · rintro d v H' F' hd a1 le dv'
    obtain rfl : d = r := hd
    exact q v H' F' ⟨a1.ext, a1.f0, a1.new⟩ a1.hf dv'
/-- what is known of a def with generator expressions -/
def GDefT (K : PySem.W.Frag) (mg : Str → Option Value) (base : Heap) (tabs : Tbs) (x : Str) (st : Stmt) (ps : List Str) : Prop := ∃ c P f fd, FunC K x x st f fd c ∧ Binds K fd ps [] ∧ mg x = some (.ref f) ∧ P ∈ tabs.G ∧ GxR.TabB base mg c P
theorem known_ofT {P : Program} {w : World} {K : PySem.W.Frag} {mg : Str → Option Value} {base : Heap} {tabs : Tbs} {k : Nat} {x : Str} {st : Stmt} {N ps : List Str} {R : List PyData → PyData → Prop} (D : GDefT K mg base tabs x st ps) (Sc : FnScope N ps (defScope st))
    (hb : ∀ (c T : Addr), T ∈ tabs.G → GxR.TabB base mg c T → ∀ (B F0 : Hp) (ds : List PyData) (r : PyData), ds.length = ps.length → R ds r → SJ (Stat.of P w K mg base N (defScope st) k tabs (.ref c) B F0 x) (gm0 N.length ds) (defBody st) ⟨fun _ => r = .none, fun d => d = r⟩) : Known P w K mg base tabs (k + 1) x ps.length R := by
  obtain ⟨c, T, f, fd, Fn, b, m, hT, TB⟩ := D
  refine ⟨f, fd, ps, rfl, ?_, m, Fn.2, b⟩
  obtain ⟨⟨oc, od, kV, doc, pm, an, ct, osl, rfl, lk, hcd⟩, kp⟩ := Fn
  refine fn_of lk hcd Sc (fun vs H Q E h => h.1) fun A outer s H vs Q E hr h => ?_
  obtain ⟨t, h1, h2⟩ := body_run Sc (.ref c) (A := A) (outer := outer) (s := s) (f := f) (qual := x) (hb c T hT TB) hr h
  exact ⟨t, h1.nox, h2⟩
def setO {α : Type} (xs : List α) (k : Int) (v : α) : Option (List α) := (ixN xs.length k).map fun i => xs.set i v
theorem j_setixO {S : Stat} {γ : Gm} {rest : List Stmt} {e a : Expr} {pos : Pos} {α τ : Type} {post : α → Post} {o : Option α} {enc : τ → PyData} {xs zs : List τ} {v : τ} {x : Str} {j : Nat} {k : Int} {pn pt : Pos} (hN : S.N[j]? = some x) (hv : Vis S.sc x) (hg : γ[j]? = some (.ow (.list (xs.map enc)))) (h : EJ S γ e (enc v)) (hi : EJ S γ a (.int k)) (hk : setO xs k v = some zs) (hd : (x == ("__debug__" : Str)) = false) (hcd : (x == ("__classdict__" : Str)) = false)
    (ha : ∀ (X : Cx) v, assign (.Subscript (.Name x pn) a pt) X.env v = (do
      let ov ← holding [v] (eval (.Name x pn) X.env)
      let iv ← holding [v, ov] (eval a X.env)
      standAt pt
      holding [v, ov, iv] (setItem ov iv v)
      release [v, ov, iv] []))
    (hs : ∀ X : Cx, swapsWithSole [.Subscript (.Name x pn) a pt] e pos.line X.env = pure false) (hw : ∀ X : Cx, swappedStores [.Subscript (.Name x pn) a pt] e X.env = pure none) (he : ∀ X : Cx, (assignEach [.Subscript (.Name x pn) a pt] X.env).map (·.2) = [assign (.Subscript (.Name x pn) a pt) X.env])
    (hr : J S (γ.set j (.ow (.list (zs.map enc)))) rest post o) : J S γ (.Assign [.Subscript (.Name x pn) a pt] e pos :: rest) post o := by
  unfold setO at hk
  obtain ⟨i, h1, rfl⟩ := Option.map_eq_some_iff.mp hk
  exact j_setix hN hv hg h hi h1 hd hcd ha hs hw he hr
theorem fst_snd {T : List (Addr × Str)} (h : (T.map (·.1)).Nodup) : ∀ p ∈ T, ∀ q ∈ T, p.1 = q.1 → p.2 = q.2 := by
  induction T with
  | nil => intro p hp; cases hp
  | cons x r ih =>
    rw [List.map_cons, List.nodup_cons] at h
    intro p hp q hq e
    rcases List.mem_cons.mp hp with hp | hp
    · rcases List.mem_cons.mp hq with hq | hq
      · rw [hp, hq]
      · exact absurd (List.mem_map.mpr ⟨q, hq, by rw [← e, hp]⟩) h.1
    · rcases List.mem_cons.mp hq with hq | hq
      · exact absurd (List.mem_map.mpr ⟨p, hp, by rw [e, hq]⟩) h.1
      · exact ih h.2 p hp q hq e
def tbsOf (G : List Addr) (T : List (Addr × Str)) (N : List Addr) (h : (G ++ (T.map (·.1) ++ N)).Nodup) : Tbs where
  G := G
  T := T
  N := N
  dT := fst_snd (List.nodup_append.mp (List.nodup_append.mp h).2.1).1
  dN := fun p hp z => (List.nodup_append.mp (List.nodup_append.mp h).2.1).2.2 p.1 (List.mem_map.mpr ⟨p, hp, rfl⟩) _ z rfl
  dG := fun P hP => ⟨fun p hp z => (List.nodup_append.mp h).2.2 P hP p.1 (List.mem_append_left _ (List.mem_map.mpr ⟨p, hp, rfl⟩)) z.symm, fun z => (List.nodup_append.mp h).2.2 P hP P (List.mem_append_right _ z) rfl⟩
theorem sp_startT {K : PySem.W.Frag} {H : Hp} {a : Addr} {nss : List Int} {R : List PyData → PyData → Prop} {E : XK} {cs : List (Addr × Addr)} {G : List Addr} {T : List (Addr × Str)} {N : List Addr} {hd : (G ++ (T.map (·.1) ++ N)).Nodup} (ht : ∀ p ∈ cs, H p.2 = some (.tbl #[])) (hcs : cs.map (·.2) = G ++ (T.map (·.1) ++ N))
    (hS : SqL K H a (nss.map V.int)) (hR : R [.list (nss.map .int)] (.bool true)) : spR K (tbsOf G T N hd) 1 R [.ref a] H (fun v _ => v = .bl true) E := by
  have h1 : ∀ P ∈ G, P ∈ cs.map (·.2) := fun P hP => by rw [hcs]; exact List.mem_append_left _ hP
  have h2 : ∀ p ∈ T, p.1 ∈ cs.map (·.2) := fun p hp => by rw [hcs]; exact List.mem_append_right _ (List.mem_append_left _ (List.mem_map.mpr ⟨p, hp, rfl⟩))
  have h3 : ∀ P ∈ N, P ∈ cs.map (·.2) := fun P hP => by rw [hcs]; exact List.mem_append_right _ (List.mem_append_right _ hP)
  have dpI : ∀ F ns, DpAll K F (List.map V.int ns) (ns.map PyData.int) := fun F ns => by
    induction ns with
    | nil => exact .nil
    | cons x r ih => exact .cons (.int x) ih
  have hS' : SqL K (fun b => match H b with | some (.tbl _) => none | o => o) a (nss.map V.int) := by
    rcases hS with h | h
    · rcases h with h | ⟨o, h⟩
      · exact .inl (.inl (by show (match H a with | some (.tbl _) => none | o => o) = _; rw [h]))
      · exact .inl (.inr ⟨o, by show (match H a with | some (.tbl _) => none | o => o) = _; rw [h]⟩)
    · exact .inr h
  have at_ : ∀ P, P ∈ cs.map (·.2) → H P = some (.tbl #[]) := fun P hP => by
    obtain ⟨p, hp, rfl⟩ := List.mem_map.mp hP
    exact ht p hp
  refine ⟨rfl, _, [.list (nss.map .int)], .bool true, ⟨fun a o h => ?_, fun a ps z => ?_⟩, ⟨fun P hP => ⟨#[], at_ P (h1 P hP), trivial⟩, ⟨fun p hp => LamX.TabS.nil (at_ _ (h2 p hp)), fun P hP => ⟨#[], at_ P (h3 P hP), trivial, fun pos cv hc => ?_⟩⟩⟩, .cons (.lst hS' (dpI _ nss)) .nil, hR, fun v H' F' _ _ dv => by cases dv; rfl⟩
  · have h : (match H a with | some (.tbl _) => none | o => o) = some o := h
    split at h
    · cases h
    · exact h
  · have z : (match H a with | some (.tbl _) => none | o => o) = some (.tbl ps) := z
    split at z
    · cases z
    · rename_i hn
      exact hn _ z
  · have z : codeAmong pos [] = some cv := hc
    simp [codeAmong] at z
/-- what is known of a def with a lambda -/
def GDefS (K : PySem.W.Frag) (mg : Str → Option Value) (base : Heap) (tabs : Tbs) (x : Str) (st : Stmt) (ps : List Str) : Prop := ∃ c P f fd, FunC K x x st f fd c ∧ Binds K fd ps [] ∧ mg x = some (.ref f) ∧ (P, x ++ ".<locals>." ++ "<lambda>") ∈ tabs.T ∧ LamX.TabB base mg c P
theorem known_ofS {P : Program} {w : World} {K : PySem.W.Frag} {mg : Str → Option Value} {base : Heap} {tabs : Tbs} {k : Nat} {x : Str} {st : Stmt} {N ps : List Str} {R : List PyData → PyData → Prop} (D : GDefS K mg base tabs x st ps) (Sc : FnScope N ps (defScope st))
    (hb : ∀ (c T : Addr), (T, x ++ ".<locals>." ++ "<lambda>") ∈ tabs.T → LamX.TabB base mg c T → ∀ (B F0 : Hp) (ds : List PyData) (r : PyData), ds.length = ps.length → R ds r → SJ (Stat.of P w K mg base N (defScope st) k tabs (.ref c) B F0 x) (gm0 N.length ds) (defBody st) ⟨fun _ => r = .none, fun d => d = r⟩) : Known P w K mg base tabs (k + 1) x ps.length R := by
  obtain ⟨c, T, f, fd, Fn, b, m, hT, TB⟩ := D
  refine ⟨f, fd, ps, rfl, ?_, m, Fn.2, b⟩
  obtain ⟨⟨oc, od, kV, doc, pm, an, ct, osl, rfl, lk, hcd⟩, kp⟩ := Fn
  refine fn_of lk hcd Sc (fun vs H Q E h => h.1) fun A outer s H vs Q E hr h => ?_
  obtain ⟨t, h1, h2⟩ := body_run Sc (.ref c) (A := A) (outer := outer) (s := s) (f := f) (qual := x) (hb c T hT TB) hr h
  exact ⟨t, h1.nox, h2⟩
theorem tabIn_of {K : PySem.W.Frag} {x : Str} {f c P : Addr} {fd : FuncData} {oc oc' : Value} {od od' : Option Addr} {sl sl' : Array (Option Value)} {vs : Array Value} (a : PySem.W.nsIn K mainGlobals x = some (some (.ref f))) (l : K.lookup f = some ⟨oc, od, .func fd, sl⟩) (hc : fd.code = .ref c) (m : K.lookup c = some ⟨oc', od', .fields vs, sl'⟩) (p : (vs[11]? : Option Value) = some (.ref P)) : PySem.W.tabIn K x = some (c, P) := by
  unfold PySem.W.tabIn
  rw [a]
  simp only [l, hc, m, p]
/-- walk_ofTs, and what the top says of the defs' tables -/
theorem walk_ofG {l : PySem.W.OpenLaw} {n k : Nat} {q : Program} {loose : List Str} {XP : (Str → Option Value) → Heap → Prop} {YP : World → Heap → Prop} {d : DefRec} {K : Params → PySem.W.Frag} {CX : World → CXT} {x : Str}
    (hn : l.most = some n) (hn2 : n ≤ sizeLine) (hdf : d.params.defaults = []) (hr : Room k callerA) (hY : ∀ (w : World) (h : Heap), YP w h → (K w.params).In h)
    (F : ∀ (w : World) (mg : Str → Option Value) (fa : Addr) (h : Heap), (∀ (y : Str) (dd : DefRec) (c P : Addr), (recsOf q).find? (fun e => e.name == y) = some dd → PySem.W.tabIn (K w.params) y = some (c, P) → PySem.W.CodeHd h c P ∧ h.get? P = some { cls := .none, data := .fields #[] }) →
      (K w.params).In h → h.Ns mainGlobals mg → mg d.name = some (.ref fa) → LamX.LawAtS l w (K w.params) (CX w) k n x mg fa h)
    (hCX : ∀ (w : World) (H : Hp) (s : Shared) (e : Value) (s' : Shared), CX w [] H s (fun _ _ _ => False) e s' → False) :
    PySem.W.WalkO q loose XP YP l.row.toRowW d [] (fun f vs => PySem.call f vs) := by
  refine Att.attach_callB hn hdf fun w s₀ s₁ mg mb fa o pm cd doc a vs ns G Y ho hd hcd hmg hobj hints hlen hbits hg => ?_
  have KX := hY w _ Y
  obtain ⟨fd, cs, sp, hT, nT, C, hb, hsp, hF⟩ := F w mg fa _ (fun y dd c P hr ht => PySem.W.tab_of G.T KX hr ht) KX G.T.g hmg
  exact LamX.law_callTs KX G.T.g G.T.b G.T.builtins G.T.nolimit hg hT nT C G.T.bmain hobj hints (Nat.le_trans hlen hn2) hr hF hb (fun H hH hS => hsp H a ns hlen hbits hH hS) fun H e s' => hCX w H s₁ e s'
end SM

set_option autoImplicit false
set_option Elab.async false
set_option linter.all false
set_option maxRecDepth 100000
set_option maxHeartbeats 4000000
namespace SM
open PySem PySem.Spec PyProof.Rows L2
/-! ### further plain tools -/
theorem fold_rngL {β : Type} {f : β → Int → Option β} {lo : Int} {n : Nat} {t0 : β} (I : Nat → β → Prop) (h0 : I 0 t0) (hs : ∀ (k : Nat) t, k < n → I k t → ∃ t', f t (lo + (k : Int)) = some t' ∧ I (k + 1) t') : ∃ t, (rng lo (lo + (n : Int))).foldlM f t0 = some t ∧ I n t := by
  induction n with
  | zero => exact ⟨t0, by rw [rng_neg (lo := lo) (hi := lo + ((0 : Nat) : Int)) (by omega)]; rfl, h0⟩
  | succ n ih =>
    obtain ⟨t, h1, h2⟩ := ih fun k t hk => hs k t (Nat.lt_succ_of_lt hk)
    obtain ⟨t', h3, h4⟩ := hs n t (Nat.lt_succ_self n) h2
    refine ⟨t', ?_, h4⟩
    rw [rng_succ, foldlM_snoc, h1]
    exact h3
theorem ex_fold_rngL {β δ : Type} {f : β → Int → Option β} {lo hi : Int} {n : Nat} {t0 : β} {g : β → Option δ} {Q : δ → Prop} (hn : hi = lo + (n : Int)) (I : Nat → β → Prop) (h0 : I 0 t0) (hs : ∀ (k : Nat) t, k < n → I k t → ∃ t', f t (lo + (k : Int)) = some t' ∧ I (k + 1) t') (hg : ∀ t, I n t → ∃ y, g t = some y ∧ Q y) : ∃ y, ((rng lo hi).foldlM f t0).bind g = some y ∧ Q y := by
  subst hn
  obtain ⟨t, h1, h2⟩ := fold_rngL I h0 hs
  exact ex_bind h1 (hg t h2)
theorem quantM_all {α : Type} {f : α → Option (Option Bool)} {g : α → Bool} : ∀ {xs : List α}, (∀ x ∈ xs, f x = some (some (g x))) → quantM true f xs = some (xs.all g)
  | [], _ => rfl
  | x :: xs, h => by
    unfold quantM
    rw [h x List.mem_cons_self, List.all_cons]
    cases hg : g x with
    | false => rfl
    | true =>
      show quantM true f xs = _
      rw [quantM_all fun y hy => h y (List.mem_cons_of_mem _ hy)]; rfl
theorem quantM_any {α : Type} {f : α → Option (Option Bool)} {g : α → Bool} : ∀ {xs : List α}, (∀ x ∈ xs, f x = some (some (g x))) → quantM false f xs = some (xs.any g)
  | [], _ => rfl
  | x :: xs, h => by
    unfold quantM
    rw [h x List.mem_cons_self, List.any_cons]
    cases hg : g x with
    | true => rfl
    | false =>
      show quantM false f xs = _
      rw [quantM_any fun y hy => h y (List.mem_cons_of_mem _ hy)]; rfl
theorem foldR_bndE {τ ρ α : Type} {f : Unit → τ → Option (Res ρ Unit)} {xs : List τ} {inj : ρ → α} {k : Unit → Option α} {r : Option α} (hs : ∀ x ∈ xs, f () x = some (.nx ())) (hg : k () = r) : (foldR f () xs).bind (Res.elim inj k) = r := bnd (foldR_nx hs) hg
end SM

set_option autoImplicit false
set_option Elab.async false
set_option linter.all false
set_option maxRecDepth 100000
set_option maxHeartbeats 4000000
namespace SM
open PySem PySem.Spec PyProof.Rows L2
/-! ### typed data, told apart by == -/
/-- x in xs -/
def memB {α : Type} [DecidableEq α] (x : α) (xs : List α) : Bool := decide (x ∈ xs)
theorem memB_iff {α : Type} [DecidableEq α] {x : α} {xs : List α} : memB x xs = true ↔ x ∈ xs := decide_eq_true_iff
structure EqE {α : Type} (e : α → PyData) (n : Nat) : Prop where
  lay : ∀ x, (e x).canLay0 = true
  dep : ∀ x, (e x).depth ≤ n
  eq : ∀ x y, PyData.eqv (e x) (e y) = true ↔ x = y
theorem EqE.sh {α : Type} {e : α → PyData} {n : Nat} (h : EqE e n) (hn : n ≤ 64) (x : α) : SeqAt.shaped (e x) = true := by
  unfold SeqAt.shaped
  rw [h.lay, Bool.true_and, decide_eq_true_iff]
  exact Nat.le_trans (h.dep x) hn
theorem EqE.dec {α : Type} [DecidableEq α] {e : α → PyData} {n : Nat} (h : EqE e n) (x y : α) : PyData.eqv (e x) (e y) = decide (x = y) := by
  rw [Bool.eq_iff_iff, decide_eq_true_iff]; exact h.eq x y
theorem eqE_I : EqE eI 0 := ⟨fun x => by simp [PyData.canLay0], fun x => by simp [PyData.depth], fun x y => by simp [PyData.eqv]⟩
theorem eqE_B : EqE eB 0 := ⟨fun x => by simp [PyData.canLay0], fun x => by simp [PyData.depth], fun x y => by simp [PyData.eqv]⟩
theorem lay_map {α : Type} {e : α → PyData} {n : Nat} (h : EqE e n) : ∀ xs : List α, PyData.canLayAll0 (xs.map e) = true
  | [] => by simp [PyData.canLayAll0]
  | x :: xs => by simp [PyData.canLayAll0, h.lay, lay_map h xs]
theorem dep_map {α : Type} {e : α → PyData} {n : Nat} (h : EqE e n) : ∀ xs : List α, PyData.depthAll (xs.map e) ≤ n
  | [] => by simp [PyData.depthAll]
  | x :: xs => by
    have h1 := h.dep x
    have h2 := dep_map h xs
    simp only [List.map_cons, PyData.depthAll]
    omega
theorem eqv_map {α : Type} {e : α → PyData} {n : Nat} (h : EqE e n) : ∀ xs ys : List α, PyData.eqvAll (xs.map e) (ys.map e) = true ↔ xs = ys
  | [], [] => by simp [PyData.eqvAll]
  | [], _ :: _ => by simp [PyData.eqvAll]
  | _ :: _, [] => by simp [PyData.eqvAll]
  | x :: xs, y :: ys => by simp [PyData.eqvAll, h.eq, eqv_map h xs ys]
theorem eqE_T {α : Type} {e : α → PyData} {n : Nat} (h : EqE e n) : EqE (eT e) (n + 1) :=
  ⟨fun x => by simp only [PyData.canLay0]; exact lay_map h x, fun x => by have := dep_map h x; simp only [PyData.depth]; omega, fun x y => by simp only [PyData.eqv]; exact eqv_map h x y⟩
theorem eqE_L {α : Type} {e : α → PyData} {n : Nat} (h : EqE e n) : EqE (eL e) (n + 1) :=
  ⟨fun x => by simp only [PyData.canLay0]; exact lay_map h x, fun x => by have := dep_map h x; simp only [PyData.depth]; omega, fun x y => by simp only [PyData.eqv]; exact eqv_map h x y⟩
theorem eqE_P2 {α β : Type} {e1 : α → PyData} {e2 : β → PyData} {n m : Nat} (h1 : EqE e1 n) (h2 : EqE e2 m) : EqE (eP2 e1 e2) (max n m + 1) := by
  refine ⟨fun x => by simp [PyData.canLay0, PyData.canLayAll0, h1.lay, h2.lay], fun x => ?_, fun x y => ?_⟩
  · have a := h1.dep x.1
    have b := h2.dep x.2
    simp only [PyData.depth, PyData.depthAll]
    omega
  · obtain ⟨a, b⟩ := x; obtain ⟨c, d⟩ := y
    simp [PyData.eqv, PyData.eqvAll, h1.eq, h2.eq]
theorem eqE_P3 {α β γ : Type} {e1 : α → PyData} {e2 : β → PyData} {e3 : γ → PyData} {n m k : Nat} (h1 : EqE e1 n) (h2 : EqE e2 m) (h3 : EqE e3 k) : EqE (eP3 e1 e2 e3) (max n (max m k) + 1) := by
  refine ⟨fun x => by simp [PyData.canLay0, PyData.canLayAll0, h1.lay, h2.lay, h3.lay], fun x => ?_, fun x y => ?_⟩
  · have a := h1.dep x.1
    have b := h2.dep x.2.1
    have c := h3.dep x.2.2
    simp only [PyData.depth, PyData.depthAll]
    omega
  · obtain ⟨a, b, c⟩ := x; obtain ⟨a', b', c'⟩ := y
    simp [PyData.eqv, PyData.eqvAll, h1.eq, h2.eq, h3.eq]
section
variable {S : Stat} {γ : Gm} {a b : Expr} {α : Type} [DecidableEq α] {enc : α → PyData} {n : Nat} {x y : α} {xs : List α}
theorem c_eqE (hE : EqE enc n) (hn : n ≤ 64) (ha : EJ S γ a (enc x)) (hb : EJ S γ b (enc y)) : CJ S γ .Eq a b (decide (x = y)) := by
  rw [← hE.dec]; exact c_eqD ha hb (hE.sh hn x) (hE.sh hn y)
theorem c_neE (hE : EqE enc n) (hn : n ≤ 64) (ha : EJ S γ a (enc x)) (hb : EJ S γ b (enc y)) : CJ S γ .NotEq a b (!decide (x = y)) := by
  rw [← hE.dec]; exact c_neD ha hb (hE.sh hn x) (hE.sh hn y)
theorem any_dec (hE : EqE enc n) : ((xs.map enc).any fun z => PyData.eqv z (enc x)) = memB x xs := by
  rw [Bool.eq_iff_iff, memB_iff, List.any_map, List.any_eq_true]
  constructor
  · rintro ⟨y, hy, h⟩
    rw [(hE.eq y x).mp h] at hy; exact hy
  · intro h; exact ⟨x, h, (hE.eq x x).mpr rfl⟩
theorem c_inE (hE : EqE enc n) (hn : n ≤ 63) (ha : EJ S γ a (enc x)) (hb : QJ S γ b .l (xs.map enc)) : CJ S γ .In a b (memB x xs) :=
  ⟨rInD S.K, fun X hX => hX.K ▸ op_inD (by have := hX.room.un; omega), fun σ H F at_ Q q => ha σ H F at_ _ fun v H1 F1 a1 x1 d1 => hb σ H1 F1 a1 _ fun u H2 F2 a2 x2 ⟨p, us, e1, h1, h2⟩ => by
    subst e1
    refine ⟨enc x, xs.map enc, (d1.zmono x2.f).zmono a2.hf.le, .lst h1 (h2.zmono a2.hf.le), hE.sh (by omega) x, (eqE_L hE).sh (by omega) xs, ?_⟩
    rw [any_dec hE]; exact q H2 F2 a2 (x1.trans x2)⟩
theorem c_notInE (hE : EqE enc n) (hn : n ≤ 63) (ha : EJ S γ a (enc x)) (hb : QJ S γ b .l (xs.map enc)) : CJ S γ .NotIn a b (!memB x xs) :=
  ⟨rNotInD S.K, fun X hX => hX.K ▸ op_notInD (by have := hX.room.un; omega), fun σ H F at_ Q q => ha σ H F at_ _ fun v H1 F1 a1 x1 d1 => hb σ H1 F1 a1 _ fun u H2 F2 a2 x2 ⟨p, us, e1, h1, h2⟩ => by
    subst e1
    refine ⟨enc x, xs.map enc, (d1.zmono x2.f).zmono a2.hf.le, .lst h1 (h2.zmono a2.hf.le), hE.sh (by omega) x, (eqE_L hE).sh (by omega) xs, ?_⟩
    rw [any_dec hE]; exact q H2 F2 a2 (x1.trans x2)⟩
end
end SM

set_option autoImplicit false
set_option Elab.async false
set_option linter.all false
set_option maxRecDepth 100000
set_option maxHeartbeats 4000000
namespace SM
open PySem PySem.Spec PySem.W PySem.SeqAt PyProof.Rows PySem.Calls
/-! ### sorting alike data: tuples some of which are empty -/
section
variable {prog : Program} {w : World} {A : Around} {E : Value → Shared → Prop} {s : Shared}
theorem call_tuple_lt {Q : Value → Shared → Prop} {l b : Addr} {items items2 : Array Value} {e r : Nat → Bool} (hl : s.heap.IsTuple l items) (hb : s.heap.IsTuple b items2)
    (he : ∀ j (h1 : j < items.size) (h2 : j < items2.size), EqAt A.in1 s items[j] items2[j] (e j)) (hr : ∀ j (h1 : j < items.size) (h2 : j < items2.size), e j = false → RcLt A.in1 s items[j] items2[j] (r j))
    (h : Q (.bool (firstLt e r (decide (items.size < items2.size)) (List.range (min items.size items2.size)))) s) : wpAny (model prog w) A (call (.builtin "tuple.__lt__") [.ref l, .ref b]) Q E s := by
  obtain ⟨⟨cls, dd, data, sl⟩, ho, hc, n, hd⟩ := id hl
  obtain ⟨⟨cls2, dd2, data2, sl2⟩, ho2, hc2, n2, hd2⟩ := id hb
  simp only at hc hd hc2 hd2
  subst hc hd hc2 hd2
  exact call_meets F.slot_tuple_lt ⟨_, ho, rfl⟩ F.entry_tuple_lt (F.args_tuple_lt_2 _ _) (tuple_ltAt l b items items2 n n2 dd dd2 sl sl2 e r) ⟨ho, ho2, he, hr, h⟩
theorem oneLt_tup {f : Bool} {xs ys : List PyData} {a b : Value} {as bs : List Addr} {Q : Bool → Shared → Prop} (ra : Reads s.heap a (.tuple xs) as) (rb : Reads s.heap b (.tuple ys) bs) (h : alike (.tuple xs) (.tuple ys) = true)
    (hu : A.units + min (PyData.tuple xs).depth (PyData.tuple ys).depth < cLine) (hq : Q (dataLt (.tuple xs) (.tuple ys)) s) : wpAny (model prog w) A (oneLt' f a b) Q E s := by
  cases f with
  | false => exact oneLt_alike (fun h => by cases h) ra rb h (fun h => by cases h) hu hq
  | true =>
    have hal : alikeAll xs ys = true := by simpa [alike] using h
    cases ra with
    | @tuple l o vs n _ as₁ h1 h2 h3 h4 =>
      cases rb with
      | @tuple l' o' vs' n' _ bs₁ k1 k2 k3 k4 =>
        have n1 : vs.size = xs.length := by simpa using ReadsAll.length _ _ _ h4
        have n2 : vs'.size = ys.length := by simpa using ReadsAll.length _ _ _ k4
        rw [dataLt_tuple, ← firstLt_toks xs ys hal, ← n1, ← n2] at hq
        rw [oneLt'_eq]
        simp only [if_true]
        refine wpAny_bind (wpAny_cRoomFor (room_here hu) ?_)
        refine wpAny_bind (wpAny_callSpecialIfBound?_slot (T := "tuple") ⟨_, h1, h2⟩ F.slot_tuple_lt (call_tuple_lt (e := pairEq xs ys) (r := fun j => dataLt (xs.getD j .none) (ys.getD j .none)) ⟨_, h1, h2, _, h3⟩ ⟨_, k1, k2, _, k3⟩ (fun j j1 j2 => ?_) (fun j j1 j2 hj => ?_) ?_))
        · have := eqAt_alikeAll xs ys A.in1 s vs.toList vs'.toList _ _ h4 k4 hal (room_in hu) j (by simpa using j1) (by simpa using j2)
          simpa using this
        · have := rcLt_alikeAll xs ys A.in1 s vs.toList vs'.toList _ _ h4 k4 hal (room_in hu) j (by simpa using j1) (by simpa using j2) hj
          simpa using this
        · exact wpAny_truthy_bool hq
/-- a tuple with an item -/
def neT : PyData → Bool
  | .tuple (_ :: _) => true
  | _ => false
theorem firsts_pat : ∀ {vs : List Value} {ds : List PyData} {Q : List (Option Value) → Shared → Prop}, EachIs (fun v d => ∃ as, Reads s.heap v d as) vs ds → (∀ d ∈ ds, ∃ xs, d = .tuple xs) →
    (∀ bs : List (Option Value), bs.map (·.isSome) = ds.map neT → Q bs s) → wpAny (model prog w) A (vs.mapM firstOfTuple') Q E s
  | _, _, _, .nil, _, h => by rw [List.mapM_nil]; exact wpAny_pure (h [] rfl)
  | _, _, Q, .cons (a := v) (b := d) (as := vs) ⟨as, r⟩ t, ht, h => by
    rw [List.mapM_cons]
    refine wpAny_bind ?_
    rw [kas_first_eq]
    obtain ⟨xs, rfl⟩ := ht d (List.mem_cons_self ..)
    refine wpAny_bind ((looks_reads r).here ?_)
    rw [if_neg (by first | decide | simp [dataType])]
    cases r with
    | @tuple l o vs2 n _ as₁ h1 h2 h3 h4 =>
      refine wpAny_bind (listItems_at h1 h3 (wpAny_pure ?_))
      refine wpAny_bind (firsts_pat (Q := fun bs s' => wpAny (model prog w) A (pure (vs2[0]? :: bs)) Q E s') t (fun d hd => ht d (List.mem_cons_of_mem _ hd)) fun bs hb => wpAny_pure (h _ ?_))
      rw [List.map_cons, List.map_cons, hb]
      congr 1
      have n1 : vs2.size = xs.length := by simpa using ReadsAll.length _ _ _ h4
      cases xs with
      | nil =>
        have : vs2[0]? = none := by simp at n1 ⊢; omega
        rw [this]; rfl
      | cons x xs =>
        have : vs2[0]?.isSome = true := by
          simp only [List.length_cons] at n1
          exact Option.isSome_iff_exists.mpr ⟨_, Array.getElem?_eq_getElem (by omega)⟩
        rw [this]; rfl
theorem lt_anyT {ds : List PyData} (hal : AllAlike ds) (ht : ∀ d ∈ ds, ∃ xs, d = .tuple xs) (hu : ∀ d, d ∈ ds → A.units + d.depth < cLine) (f : Bool) (kd : SortKind) (hkd : ∀ x y, keyLt' kd x y = oneLt' f x y) :
    H.LtAt prog w A s (dataKind s.heap ds) kd := by
  intro E x y a b Q ha hb hq
  obtain ⟨d, as, hd, ra, rfl⟩ := dataKind_inv ha
  obtain ⟨d', as', hd', rb, rfl⟩ := dataKind_inv hb
  rw [hkd]
  have hdd := hal d hd d' hd'
  have hroom : A.units + min d.depth d'.depth < cLine := Nat.lt_of_le_of_lt (Nat.add_le_add_left (Nat.min_le_left _ _) _) (hu d hd)
  obtain ⟨xs, rfl⟩ := ht d hd
  obtain ⟨ys, rfl⟩ := ht d' hd'
  exact oneLt_tup ra rb hdd hroom hq
/-- all are tuples, or none is a tuple or None -/
def SortableA (ds : List PyData) : Prop := (∀ d ∈ ds, ∃ xs, d = .tuple xs) ∨ ∀ d, d ∈ ds → d ≠ .none ∧ ∀ xs, d ≠ .tuple xs
theorem sortsAt_any {vs : List Value} {ds : List PyData} (e : EachIs (fun v d => ∃ as, Reads s.heap v d as) vs ds) (hal : AllAlike ds) (hk : SortableA ds) (hu : ∀ d, d ∈ ds → A.units + d.depth < cLine) : SortsAt prog w A s (dataKind s.heap ds) vs := by
  rcases hk with ht | hn
  · by_cases hall : ∀ d ∈ ds, ∃ x r, d = .tuple (x :: r)
    · exact SortsAt.data e hal (.inl hall) hu
    · refine ⟨fun v hv => ?_, ?_⟩
      · obtain ⟨d, hd, as, r⟩ := e.left v hv
        exact ⟨_, dataKind_some hal hd r⟩
      · have hno : (ds.map neT).all id = false := by
          rw [Bool.eq_false_iff]
          intro h
          rw [List.all_map, List.all_eq_true] at h
          refine hall fun d hd => ?_
          obtain ⟨xs, rfl⟩ := ht d hd
          cases xs with
          | nil => exact absurd (h _ hd) (by simp [neT])
          | cons x r => exact ⟨x, r, rfl⟩
        have hallF : ∀ bs : List (Option Value), bs.map (·.isSome) = ds.map neT → (bs.toArray.all fun x => x.isSome) = false := fun bs hb => by
          rw [List.all_toArray]
          rw [← hb, List.all_map] at hno
          exact hno
        cases ds with
        | nil => exact absurd (fun d hd => absurd hd (by simp)) hall
        | cons d₀ ds₀ =>
          have h0 : ∀ bs : List (Option Value), bs.map (·.isSome) = (d₀ :: ds₀).map neT → (bs.toArray[0]?.bind id).isSome = neT d₀ := fun bs hb => by
            cases bs with
            | nil => simp at hb
            | cons b bs =>
              rw [List.map_cons, List.map_cons] at hb
              have := (List.cons.inj hb).1
              simpa using this
          cases hd0 : neT d₀ with
          | true =>
            refine ⟨general', lt_anyT hal ht hu false general' (fun _ _ => rfl), fun h2 E Q hq => ?_⟩
            rw [keyKind'_eq, List.mapM_toArray, map_eq_pure_bind]
            refine wpAny_bind (wpAny_bind (firsts_pat e ht fun bs hb => wpAny_pure ?_))
            rw [if_neg (by rw [hallF bs hb]; exact Bool.false_ne_true), if_pos (by rw [h0 bs hb, hd0])]
            exact wpAny_pure hq
          | false =>
            refine ⟨oneType', lt_anyT hal ht hu true oneType' (fun _ _ => keyLt'_oneType _ _), fun h2 E Q hq => ?_⟩
            rw [keyKind'_eq, List.mapM_toArray, map_eq_pure_bind]
            refine wpAny_bind (wpAny_bind (firsts_pat e ht fun bs hb => wpAny_pure ?_))
            rw [if_neg (by rw [hallF bs hb]; exact Bool.false_ne_true), if_neg (by rw [h0 bs hb, hd0]; exact Bool.false_ne_true)]
            obtain ⟨v₁, v₂, rest, rfl⟩ : ∃ v₁ v₂ rest, vs = v₁ :: v₂ :: rest := by
              match vs, h2 with
              | [], h2 => simp at h2
              | [_], h2 => simp at h2
              | v₁ :: v₂ :: rest, _ => exact ⟨v₁, v₂, rest, rfl⟩
            have hT : ∀ v ∈ v₁ :: v₂ :: rest, Looks (model prog w) s.heap (typeOf v) (Value.type "tuple") := fun v hv => by
              obtain ⟨d, hd, as, r⟩ := e.left v hv
              obtain ⟨xs, rfl⟩ := ht d hd
              exact looks_reads r
            rw [oneTypeOnly'_eq, List.mapM_toArray, map_eq_pure_bind]
            refine wpAny_bind (wpAny_bind (wpAny_bind (kas_mapM (r := Value.type "tuple") _ (fun v hv Q' hq => (hT v hv).here hq) (wpAny_pure ?_))))
            have hall2 : ((List.map (fun _ => Value.type "tuple") (v₁ :: v₂ :: rest)).toArray.all fun x => x == Value.type "tuple") = true := by
              simp only [List.all_toArray, List.all_map, List.all_eq_true]
              intro _ _
              exact beq_self_eq_true _
            have h00 : (List.map (fun _ => Value.type "tuple") (v₁ :: v₂ :: rest)).toArray[0]? = some (Value.type "tuple") := by simp
            rw [h00]
            simp only [hall2, if_true]
            exact wpAny_pure (wpAny_pure hq)
  · exact SortsAt.data e hal (.inr hn) hu
end

/-! ### typed orders -/
class LtE (α : Type) where
  lt : α → α → Bool
  irr : ∀ a, lt a a = false
  tr : ∀ a b c, lt a b = true → lt b c = true → lt a c = true
  tri : ∀ a b, lt a b = false → lt b a = false → a = b
open LtE
theorem LtE.asym {α : Type} [LtE α] {a b : α} (h : lt a b = true) : lt b a = false := by
  rw [Bool.eq_false_iff]
  intro h2
  have := tr a b a h h2
  rw [irr] at this; cases this
instance : LtE Int where
  lt a b := decide (a < b)
  irr a := by simp
  tr a b c h1 h2 := by simp at *; omega
  tri a b h1 h2 := by simp at *; omega
instance {α β : Type} [LtE α] [LtE β] : LtE (α × β) where
  lt a b := lt a.1 b.1 || (!lt b.1 a.1 && lt a.2 b.2)
  irr a := by simp [irr]
  tr a b c h1 h2 := by
    simp only [Bool.or_eq_true, Bool.and_eq_true, Bool.not_eq_true'] at *
    rcases h1 with h1 | ⟨h1, h1'⟩
    · rcases h2 with h2 | ⟨h2, h2'⟩
      · exact .inl (tr _ _ _ h1 h2)
      · cases h3 : lt b.1 c.1 with
        | true => exact .inl (tr _ _ _ h1 h3)
        | false => rw [← tri _ _ h3 h2]; exact .inl h1
    · cases h3 : lt a.1 b.1 with
      | true =>
        rcases h2 with h2 | ⟨h2, h2'⟩
        · exact .inl (tr _ _ _ h3 h2)
        · cases h4 : lt b.1 c.1 with
          | true => exact .inl (tr _ _ _ h3 h4)
          | false => rw [← tri _ _ h4 h2]; exact .inl h3
      | false =>
        rw [tri _ _ h3 h1]
        rcases h2 with h2 | ⟨h2, h2'⟩
        · exact .inl h2
        · exact .inr ⟨h2, tr _ _ _ h1' h2'⟩
  tri a b h1 h2 := by
    simp only [Bool.or_eq_false_iff, Bool.and_eq_false_iff, Bool.not_eq_false'] at h1 h2
    have h3 := tri _ _ h1.1 h2.1
    obtain ⟨a1, a2⟩ := a
    obtain ⟨b1, b2⟩ := b
    simp only at h1 h2 h3
    subst h3
    rw [irr] at h1 h2
    simp at h1 h2
    rw [tri _ _ h1 h2]
def ltL {α : Type} [LtE α] : List α → List α → Bool
  | _, [] => false
  | [], _ :: _ => true
  | x :: xs, y :: ys => lt x y || (!lt y x && ltL xs ys)
theorem ltL_irr {α : Type} [LtE α] : ∀ xs : List α, ltL xs xs = false
  | [] => rfl
  | x :: xs => by simp [ltL, irr, ltL_irr xs]
theorem ltL_tri {α : Type} [LtE α] : ∀ xs ys : List α, ltL xs ys = false → ltL ys xs = false → xs = ys
  | [], [], _, _ => rfl
  | [], _ :: _, h, _ => by simp [ltL] at h
  | _ :: _, [], _, h => by simp [ltL] at h
  | x :: xs, y :: ys, h1, h2 => by
    simp only [ltL, Bool.or_eq_false_iff, Bool.and_eq_false_iff, Bool.not_eq_false'] at h1 h2
    have e := tri _ _ h1.1 h2.1
    subst e
    rw [irr] at h1 h2
    simp at h1 h2
    rw [ltL_tri xs ys h1 h2]
theorem ltL_tr {α : Type} [LtE α] : ∀ xs ys zs : List α, ltL xs ys = true → ltL ys zs = true → ltL xs zs = true
  | _, [], _, h, _ => by simp [ltL] at h
  | _, _ :: _, [], _, h => by simp [ltL] at h
  | [], _ :: _, _ :: _, _, _ => rfl
  | x :: xs, y :: ys, z :: zs, h1, h2 => by
    simp only [ltL, Bool.or_eq_true, Bool.and_eq_true, Bool.not_eq_true'] at *
    rcases h1 with h1 | ⟨h1, h1'⟩
    · rcases h2 with h2 | ⟨h2, h2'⟩
      · exact .inl (tr _ _ _ h1 h2)
      · cases h3 : lt y z with
        | true => exact .inl (tr _ _ _ h1 h3)
        | false => rw [← tri _ _ h3 h2]; exact .inl h1
    · cases h3 : lt x y with
      | true =>
        rcases h2 with h2 | ⟨h2, h2'⟩
        · exact .inl (tr _ _ _ h3 h2)
        · cases h4 : lt y z with
          | true => exact .inl (tr _ _ _ h3 h4)
          | false => rw [← tri _ _ h4 h2]; exact .inl h3
      | false =>
        rw [tri _ _ h3 h1]
        rcases h2 with h2 | ⟨h2, h2'⟩
        · exact .inl h2
        · exact .inr ⟨h2, ltL_tr _ _ _ h1' h2'⟩
instance {α : Type} [LtE α] : LtE (List α) where
  lt := ltL
  irr := ltL_irr
  tr := ltL_tr
  tri := ltL_tri
/-- sorted(xs) -/
def sortB {α : Type} [LtE α] (xs : List α) : List α := xs.mergeSort fun a b => !lt b a
structure OrdE {α : Type} [LtE α] (e : α → PyData) (n : Nat) : Prop where
  al : ∀ x y, alike (e x) (e y) = true
  dep : ∀ x, (e x).depth ≤ n
  eqv : ∀ x y, PyData.eqv (e x) (e y) = true ↔ x = y
  lt : ∀ x y, dataLt (e x) (e y) = LtE.lt x y
  kind : (∀ x, ∃ xs, e x = .tuple xs) ∨ ∀ x, e x ≠ .none ∧ ∀ xs, e x ≠ .tuple xs
theorem ordE_I : OrdE eI 0 := ⟨fun x y => by simp [alike], fun x => by simp [PyData.depth], eqE_I.eq, fun x y => dataLt_int x y, .inr fun x => ⟨by simp, by simp⟩⟩
theorem row_nn : lexLt itemOrd (keyToksAll []) (keyToksAll []) = false := lex_irrefl _
theorem row_nc (y : PyData) (ys : List PyData) : lexLt itemOrd (keyToksAll []) (keyToksAll (y :: ys)) = true := by
  rw [toks_all_cons]
  simp only [keyToksAll]
  rw [lex_diff (O := itemOrd) (by simp)]
  rfl
theorem row_cn (y : PyData) (ys : List PyData) : lexLt itemOrd (keyToksAll (y :: ys)) (keyToksAll []) = false := by
  rw [toks_all_cons]
  simp only [keyToksAll]
  rw [lex_diff (O := itemOrd) (by simp)]
  rfl
theorem row_cc {α : Type} [LtE α] {e : α → PyData} {n : Nat} (h : OrdE e n) (x y : α) (xs ys : List PyData) :
    lexLt itemOrd (keyToksAll (e x :: xs)) (keyToksAll (e y :: ys)) = (LtE.lt x y || (!LtE.lt y x && lexLt itemOrd (keyToksAll xs) (keyToksAll ys))) := by
  rw [dataLt_cons (h.al x y)]
  by_cases q : x = y
  · subst q
    rw [if_pos ((h.eqv x x).mpr rfl), irr]
    simp
  · rw [if_neg fun z => q ((h.eqv x y).mp z), h.lt]
    cases h1 : LtE.lt x y with
    | true => rfl
    | false =>
      cases h2 : LtE.lt y x with
      | true => rfl
      | false => exact absurd (tri _ _ h1 h2) q
theorem al_map {α : Type} [LtE α] {e : α → PyData} {n : Nat} (h : OrdE e n) : ∀ xs ys : List α, alikeAll (xs.map e) (ys.map e) = true
  | [], _ => by simp [alikeAll]
  | _ :: _, [] => by simp [alikeAll]
  | x :: xs, y :: ys => by
    rw [List.map_cons, List.map_cons, alikeAll, h.al, al_map h xs ys]; rfl
theorem dep_mapO {α : Type} [LtE α] {e : α → PyData} {n : Nat} (h : OrdE e n) : ∀ xs : List α, PyData.depthAll (xs.map e) ≤ n
  | [] => by simp [PyData.depthAll]
  | x :: xs => by
    have h1 := h.dep x
    have h2 := dep_mapO h xs
    simp only [List.map_cons, PyData.depthAll]
    omega
theorem eqv_mapO {α : Type} [LtE α] {e : α → PyData} {n : Nat} (h : OrdE e n) : ∀ xs ys : List α, PyData.eqvAll (xs.map e) (ys.map e) = true ↔ xs = ys
  | [], [] => by simp [PyData.eqvAll]
  | [], _ :: _ => by simp [PyData.eqvAll]
  | _ :: _, [] => by simp [PyData.eqvAll]
  | x :: xs, y :: ys => by simp [PyData.eqvAll, h.eqv, eqv_mapO h xs ys]
theorem row_map {α : Type} [LtE α] {e : α → PyData} {n : Nat} (h : OrdE e n) : ∀ xs ys : List α, lexLt itemOrd (keyToksAll (xs.map e)) (keyToksAll (ys.map e)) = ltL xs ys
  | [], [] => row_nn
  | [], _ :: _ => row_nc _ _
  | _ :: _, [] => row_cn _ _
  | x :: xs, y :: ys => by
    rw [List.map_cons, List.map_cons, row_cc h, row_map h xs ys]; rfl
theorem ordE_T {α : Type} [LtE α] {e : α → PyData} {n : Nat} (h : OrdE e n) : OrdE (eT e) (n + 1) :=
  ⟨fun x y => by simp only [alike]; exact al_map h x y, fun x => by have := dep_mapO h x; simp only [PyData.depth]; omega, fun x y => by simp only [PyData.eqv]; exact eqv_mapO h x y,
    fun x y => by rw [dataLt_tuple]; exact row_map h x y, .inl fun x => ⟨_, rfl⟩⟩
theorem ordE_L {α : Type} [LtE α] {e : α → PyData} {n : Nat} (h : OrdE e n) : OrdE (eL e) (n + 1) :=
  ⟨fun x y => by simp only [alike]; exact al_map h x y, fun x => by have := dep_mapO h x; simp only [PyData.depth]; omega, fun x y => by simp only [PyData.eqv]; exact eqv_mapO h x y,
    fun x y => by rw [dataLt_list]; exact row_map h x y, .inr fun x => ⟨by simp, by simp⟩⟩
theorem ordE_P2 {α β : Type} [LtE α] [LtE β] {e1 : α → PyData} {e2 : β → PyData} {n m : Nat} (h1 : OrdE e1 n) (h2 : OrdE e2 m) : OrdE (eP2 e1 e2) (max n m + 1) := by
  refine ⟨fun x y => by simp [alike, alikeAll, h1.al, h2.al], fun x => ?_, fun x y => ?_, fun x y => ?_, .inl fun x => ⟨_, rfl⟩⟩
  · have a := h1.dep x.1
    have b := h2.dep x.2
    simp only [PyData.depth, PyData.depthAll]
    omega
  · obtain ⟨a, b⟩ := x; obtain ⟨c, d⟩ := y
    simp [PyData.eqv, PyData.eqvAll, h1.eqv, h2.eqv]
  · rw [dataLt_tuple, row_cc h1, row_cc h2, row_nn]
    show _ = (_ || _)
    simp
theorem ordE_P3 {α β γ : Type} [LtE α] [LtE β] [LtE γ] {e1 : α → PyData} {e2 : β → PyData} {e3 : γ → PyData} {n m k : Nat} (h1 : OrdE e1 n) (h2 : OrdE e2 m) (h3 : OrdE e3 k) : OrdE (eP3 e1 e2 e3) (max n (max m k) + 1) := by
  refine ⟨fun x y => by simp [alike, alikeAll, h1.al, h2.al, h3.al], fun x => ?_, fun x y => ?_, fun x y => ?_, .inl fun x => ⟨_, rfl⟩⟩
  · have a := h1.dep x.1
    have b := h2.dep x.2.1
    have c := h3.dep x.2.2
    simp only [PyData.depth, PyData.depthAll]
    omega
  · obtain ⟨a, b, c⟩ := x; obtain ⟨a', b', c'⟩ := y
    simp [PyData.eqv, PyData.eqvAll, h1.eqv, h2.eqv, h3.eqv]
  · rw [dataLt_tuple, row_cc h1, row_cc h2, row_cc h3, row_nn]
    show _ = (_ || (_ && (_ || _)))
    simp
theorem OrdE.sortable {α : Type} [LtE α] {e : α → PyData} {n : Nat} (h : OrdE e n) (xs : List α) : SortableA (xs.map e) := by
  rcases h.kind with k | k
  · refine .inl fun d hd => ?_
    obtain ⟨x, _, rfl⟩ := List.mem_map.mp hd
    exact k x
  · refine .inr fun d hd => ?_
    obtain ⟨x, _, rfl⟩ := List.mem_map.mp hd
    exact k x
theorem OrdE.le {α : Type} [LtE α] {e : α → PyData} {n : Nat} (h : OrdE e n) : dataLe false e = fun a b => !LtE.lt b a := by
  funext a b
  show (!dataLt (e b) (e a)) = _
  rw [h.lt]
end SM

set_option autoImplicit false
set_option Elab.async false
set_option linter.all false
set_option maxRecDepth 100000
set_option maxHeartbeats 4000000
namespace SM
open PySem PySem.Spec PySem.W PySem.SeqAt PyProof.Rows PySem.Calls
/-! ### sorted over whatever can be collected -/
section
variable {prog : Program} {w : World} {A : Around} {E : Value → Shared → Prop} {s : Shared}
/-- x is collected: its items are told by G -/
def CollW (prog : Program) (w : World) (A : Around) (s : Shared) (x : Value) (G : List Value → Prop) : Prop :=
  ∀ (E' : Value → Shared → Prop) (Q' : List Value → Shared → Prop), (∀ (vs : List Value) (h' : Heap) (tk : Nat), G vs → (∀ b o, s.heap.get? b = some o → h'.get? b = some o) → Q' vs { s with heap := h', toks := tk }) → wpAny (model prog w) A (collect x) Q' E' s
theorem coll_seq {T : String} {o : Obj} {items : Array Value} {n : Nat} {a : Addr} (hT : T = "list" ∨ T = "tuple") (ho : s.heap.get? a = some o) (hc : o.cls = .type T) (hd : o.data = .seq items n) (hsz : items.size ≤ sizeLine) :
    CollW prog w A s (.ref a) (fun vs => vs = items.toList) := fun E' Q' h => wpAny_collect_seq a hT ho hc hd (fun h' k => h _ h' s.toks rfl k) hsz
theorem sorted_of_coll {x : Value} {G : List Value → Prop} {kw : List (Str × Value)} {Q : Value → Shared → Prop} (hcol : CollW prog w A.in1 s x G) (hL : ∀ vs, G vs → vs.length ≤ sizeLine) (ha1 : argsOk "sorted" ⟨[x], kw⟩) (ha2 : ∀ a, argsOk "list.sort" ⟨[.ref a], kw⟩)
    (body : ∀ (vs : List Value) (h' : Heap) (tk : Nat), G vs → (∀ b o, s.heap.get? b = some o → h'.get? b = some o) → ∀ E' : Value → Shared → Prop,
      wpAny (model prog w) A.in1.in1 (Builtin.«list.sort» ⟨[.ref h'.objs.size], kw⟩) (fun f s' => f = .done (.ret .none) ∧ Q (.ref h'.objs.size) s') E' { s with heap := h'.push (seqObj "list" vs.toArray 0), toks := tk }) :
    wpAny (model prog w) A (call (.builtin "sorted") [x] kw) Q E s := by
  refine call_function_entry_kw kind_sorted plain_sorted entry_sorted ha1 ?_
  unfold Builtin.«sorted»
  refine wpAny_bind (m := checkCount "sorted" 1 1 _) (wpAny_pure ?_)
  refine wpAny_bind (hcol _ _ fun vs h' tk hG k => ?_)
  refine wpAny_bind (wpAny_newList ?_ (hL vs hG))
  refine wpAny_bind (wpAny_holding (wpAny_call_entry_kw slot_list_sort ⟨_, Heap.get?_push_size _ rfl, rfl⟩ entry_list_sort ?_ (ha2 _)))
  refine wpAny_mono (body vs h' tk hG k _) (fun f s' hf => ?_) fun _ _ e => e
  obtain ⟨rfl, hq⟩ := hf
  exact ⟨_, rfl, wpAny_pure ⟨_, rfl, hq⟩⟩
theorem sorted_collected {x : Value} {G : List Value → Prop} {Q : Value → Shared → Prop} {β : Type} {enc : β → PyData} {bs : List β} {R : Value → β → Prop} (hcol : CollW prog w A.in1 s x G) (hG : ∀ vs, G vs → EachIs R vs bs ∧ EachIs (fun v b => ∃ as, Reads s.heap v (enc b) as) vs bs) (hal : AllAlike (bs.map enc)) (hk : SortableA (bs.map enc)) (hL : bs.length ≤ sizeLine)
    (hu : ∀ b, b ∈ bs → A.units + 2 + (enc b).depth < cLine)
    (h : ∀ (vs out : List Value) (h' : Heap) (tk : Nat), (∀ b o, s.heap.get? b = some o → h'.get? b = some o) → out.length = bs.length → EachIs R out (bs.mergeSort (dataLe false enc)) → Q (.ref h'.objs.size) { s with heap := sortedHeap (h'.push (seqObj "list" vs.toArray 0)) h'.objs.size vs out.toArray, toks := tk }) :
    wpAny (model prog w) A (call (.builtin "sorted") [x]) Q E s := by
  refine sorted_of_coll hcol (fun vs g => by rw [(hG vs g).1.length]; exact hL) (args_sorted1 _) (fun _ => args_list_sort _) fun vs h' tk g k E' => ?_
  obtain ⟨e, er⟩ := hG vs g
  have kk : ∀ b o, s.heap.get? b = some o → (sortingHeap (h'.push (seqObj "list" vs.toArray 0)) h'.objs.size vs).get? b = some o := fun b o q =>
    sortingHeap_old (Nat.ne_of_lt (Heap.lt_size (k b o q))) (Heap.get?_push_of_some _ (k b o q))
  have er' : EachIs (fun v b => ∃ as, Reads (sortingHeap (h'.push (seqObj "list" vs.toArray 0)) h'.objs.size vs) v (enc b) as) vs bs := er.mono fun _ _ ⟨as, r⟩ => ⟨as, PyProof.Rows.Reads.keeps kk r⟩
  refine list_sort_vals (s := { s with heap := h'.push (seqObj "list" vs.toArray 0), toks := tk }) (κ := dataKind (sortingHeap (h'.push (seqObj "list" vs.toArray 0)) h'.objs.size vs) (bs.map enc)) (Heap.get?_push_size _ rfl)
    (sortsAt_any (s := { s with heap := sortingHeap (h'.push (seqObj "list" vs.toArray 0)) h'.objs.size vs, toks := tk }) (each_map (R := fun v d => ∃ as, Reads (sortingHeap (h'.push (seqObj "list" vs.toArray 0)) h'.objs.size vs) v d as) enc er') hal hk (bound_map (A := A.in1.in1) hu)) (by rw [e.length]; exact hL) ⟨rfl, ?_⟩
  exact h vs _ h' tk k (by rw [sortVals_length false rfl]; exact e.length) (sortVals_data false e er' hal)
end
end SM
namespace SM
open PySem PySem.Spec PyProof.Rows L2
open PySem.W (EachIs AllAlike)
section
variable {X : Cx} {pins : List (Addr × Obj)} {σ : L2.St} {H : Hp} {s : Shared}
theorem each_dp {β : Type} {enc : β → PyData} {F : Hp} (le : SM.Le F H) (I : Inv X pins σ H s) : ∀ {us : List V} {vs : List Value} {bs : List β}, Vals us vs → DpAll X.K F us (bs.map enc) →
    EachIs (fun v b => ∃ u, RelV u v ∧ Dp X.K F u (enc b)) vs bs ∧ EachIs (fun v b => ∃ as, Reads s.heap v (enc b) as) vs bs
  | _, _, [], r, h => by cases h; cases r; exact ⟨.nil, .nil⟩
  | _, _, b :: bs, r, h => by
    cases h with
    | cons h1 h2 =>
      cases r with
      | cons r1 r2 =>
        obtain ⟨e1, e2⟩ := each_dp le I r2 h2
        exact ⟨.cons ⟨_, r1, h1⟩ e1, .cons (Dp.reads I _ _ _ (h1.zmono le) r1) e2⟩
theorem each_back {β : Type} {enc : β → PyData} : ∀ {vs : List Value} {bs : List β}, EachIs (fun v b => ∃ u, RelV u v ∧ Dp X.K H u (enc b)) vs bs → ∃ us, Vals us vs ∧ DpAll X.K H us (bs.map enc)
  | _, _, .nil => ⟨[], .nil, .nil⟩
  | _, _, .cons ⟨u, r, d⟩ t => by
    obtain ⟨us, h1, h2⟩ := each_back t
    exact ⟨u :: us, .cons r h1, .cons d h2⟩
/-- sorted(xs), xs a list or tuple of data alike -/
def rSortD (K : PySem.W.Frag) : List V → Hp → VK → Prop := fun vs H Q => ∃ (F : Hp) (α : Type) (_ : LtE α) (enc : α → PyData) (n : Nat) (xs : List α) (a : Addr) (us : List V), SM.Le F H ∧ vs = [V.ref a] ∧ (SqL K H a us ∨ SqT K H a us) ∧ DpAll K F us (xs.map enc) ∧ OrdE enc n ∧ n ≤ 60 ∧
  ∀ (us' : List V) (p : Addr), DpAll K F us' ((sortB xs).map enc) → H p = none → Q (.ref p) (upd H p (.lst us'))
theorem cr_sortedD (hu : X.A.units + 65 < cLine) : CallR X (.builtin "sorted") (rSortD X.K) := by
  intro pins s σ H vs us0 Q I r h
  obtain ⟨F, α, iα, enc, n, xs, a, us, le, rfl, hs, hd, hO, hn, q⟩ := h
  rw [Vals.ref1 r]
  obtain ⟨its, rv, hz, hcol⟩ : ∃ its : List Value, Vals us its ∧ us.length ≤ sizeLine ∧ CollW X.prog X.w X.A.in1 s (.ref a) (fun vs => vs = its) := by
    rcases hs with hs | hs
    · obtain ⟨its, rv, hl, hz⟩ := I.list hs
      obtain ⟨o, ho, hc, m, hdt⟩ := hl.isList
      exact ⟨its, rv, hz, coll_seq (.inl rfl) ho hc hdt (by rw [List.size_toArray, ← rv.length]; exact hz)⟩
    · obtain ⟨its, rv, hl, hz⟩ := I.tuple hs
      obtain ⟨o, ho, hc, m, hdt⟩ := hl
      exact ⟨its, rv, hz, coll_seq (.inr rfl) ho hc hdt (by rw [List.size_toArray, ← rv.length]; exact hz)⟩
  obtain ⟨e, er⟩ := each_dp le I rv hd
  have hlen : xs.length ≤ sizeLine := by
    have := e.length
    rw [← this, ← rv.length]; exact hz
  refine sorted_collected (enc := enc) (bs := xs) (R := fun v b => ∃ u, RelV u v ∧ Dp X.K F u (enc b)) hcol (fun vs g => by rw [g]; exact ⟨e, er⟩)
    (PySem.W.AllAlike.of hO.al) (hO.sortable xs) hlen (fun b _ => by have := hO.dep b; omega) fun vs out h' tk k hout eo => ?_
  rw [hO.le] at eo
  obtain ⟨us', rv', hd'⟩ := each_back eo
  obtain ⟨ep, he'⟩ := PyProof.Rows.sortedHeap_at (h := h'.push (seqObj "list" vs.toArray 0)) (vs := vs) (out := out.toArray) (Heap.get?_push_size _ rfl)
  have hol : us'.length ≤ sizeLine := by rw [rv'.length, hout]; exact hlen
  have kp : ∀ b u, s.heap.get? b = some u → (sortedHeap (h'.push (seqObj "list" vs.toArray 0)) h'.objs.size vs out.toArray).get? b = some u := fun b u e => by
    rw [PyProof.Rows.sortedHeap_old (Nat.ne_of_lt (Heap.lt_size (k b u e))) (by rw [size_push']; exact Nat.lt_succ_of_lt (Heap.lt_size (k b u e)))]
    exact Heap.get?_push_of_some _ (k b u e)
  have hn0 : H h'.objs.size = none := (I.hok.kept k).fresh (Nat.le_refl _)
  have hs0 : s.heap.get? h'.objs.size = none := by
    cases z : s.heap.get? h'.objs.size with
    | none => rfl
    | some u => exact absurd (Heap.lt_size (k _ _ z)) (Nat.lt_irrefl _)
  exact ⟨.ref _, upd H h'.objs.size (.lst us'), I.laidN (t' := tk) kp hs0 hn0 ⟨hol, out, ep, rv', he'⟩, rfl, q us' _ hd' hn0⟩
theorem boot_sorted : bootBuiltins "sorted" = some (.builtin "sorted") := by rfl
end
section
variable {S : Stat} {γ : Gm} {a : Expr} {pos p : Pos}
theorem f_sorted {α : Type} [iα : LtE α] {enc : α → PyData} {n : Nat} {xs : List α} {k : SK} (hO : OrdE enc n) (hn : n ≤ 60) (hg : IsGl S "sorted") (hm : S.mg "sorted" = none) (ha : QJ S γ a k (xs.map enc)) (hs : PlainE a) :
    FJ S γ (.Call (.Name "sorted" p) [a] [] pos) ((sortB xs).map enc) :=
  w_b1 (r := rSortD S.K) (fun X hX => hX.K ▸ cr_sortedD (by have := hX.room.un; omega)) hg hm boot_sorted hs ha (fun v H0 F0 H F Q at_ x ⟨q, vs, e1, h1, h2⟩ k2 => by
    subst e1
    refine ⟨F, α, iα, enc, n, xs, q, vs, at_.hf.le, rfl, ?_, h2, hO, hn, fun us' l hd hl => ?_⟩
    · cases k with
      | l => exact .inl h1
      | t => exact .inr h1
    · exact k2 _ _ _ (at_.hf.newH hl) (ex_newH hl) ⟨l, us', rfl, x.h.back hl, at_.hf.fnone hl, upd_same, hd⟩) (by decide) (by decide)
end
end SM

set_option autoImplicit false
set_option Elab.async false
set_option linter.all false
set_option maxRecDepth 100000
set_option maxHeartbeats 4000000
namespace SM
open PySem PySem.Spec PyProof.Rows L2
section
variable {X : Cx}
def rInT (K : PySem.W.Frag) : R2 := fun x y H Q => ∃ d ds, Dp K H x d ∧ Dp K H y (.tuple ds) ∧ SeqAt.shaped d = true ∧ SeqAt.shaped (.tuple ds) = true ∧ Q (.bl (ds.any fun z => PyData.eqv z d)) H
def rNotInT (K : PySem.W.Frag) : R2 := fun x y H Q => ∃ d ds, Dp K H x d ∧ Dp K H y (.tuple ds) ∧ SeqAt.shaped d = true ∧ SeqAt.shaped (.tuple ds) = true ∧ Q (.bl (!ds.any fun z => PyData.eqv z d)) H
theorem op_inT (hu : X.A.units + 65 < cLine) : OpR X (compareOp .In) (rInT X.K) := by
  intro pins s σ H x y v u Q I rx ry h
  obtain ⟨d, ds, hd, he, sd, se, q⟩ := h
  obtain ⟨as, r1⟩ := Dp.reads I d x v hd rx
  obtain ⟨bs, r2⟩ := Dp.reads I (.tuple ds) y u he ry
  exact SeqAt.in_tuple_reads r2 r1 (SeqAt.canLay_of_shaped se) (SeqAt.canLay_of_shaped sd) (PyProof.Rows.room_in_shaped sd hu) ⟨.bl _, H, I, rfl, q⟩
theorem op_notInT (hu : X.A.units + 65 < cLine) : OpR X (compareOp .NotIn) (rNotInT X.K) := by
  intro pins s σ H x y v u Q I rx ry h
  obtain ⟨d, ds, hd, he, sd, se, q⟩ := h
  obtain ⟨as, r1⟩ := Dp.reads I d x v hd rx
  obtain ⟨bs, r2⟩ := Dp.reads I (.tuple ds) y u he ry
  exact SeqAt.notIn_tuple_reads r2 r1 (SeqAt.canLay_of_shaped se) (SeqAt.canLay_of_shaped sd) (PyProof.Rows.room_in_shaped sd hu) ⟨.bl _, H, I, rfl, q⟩
end
section
variable {S : Stat} {γ : Gm} {a b : Expr} {α : Type} [DecidableEq α] {enc : α → PyData} {n : Nat} {x y : α} {xs : List α}
theorem c_inTE (hE : EqE enc n) (hn : n ≤ 63) (ha : EJ S γ a (enc x)) (hb : EJ S γ b (.tuple (xs.map enc))) : CJ S γ .In a b (memB x xs) :=
  ⟨rInT S.K, fun X hX => hX.K ▸ op_inT (by have := hX.room.un; omega), fun σ H F at_ Q q => ha σ H F at_ _ fun v H1 F1 a1 x1 d1 => hb σ H1 F1 a1 _ fun u H2 F2 a2 x2 d2 => by
    refine ⟨enc x, xs.map enc, (d1.zmono x2.f).zmono a2.hf.le, d2.zmono a2.hf.le, hE.sh (by omega) x, (eqE_T hE).sh (by omega) xs, ?_⟩
    rw [any_dec hE]; exact q H2 F2 a2 (x1.trans x2)⟩
theorem c_notInTE (hE : EqE enc n) (hn : n ≤ 63) (ha : EJ S γ a (enc x)) (hb : EJ S γ b (.tuple (xs.map enc))) : CJ S γ .NotIn a b (!memB x xs) :=
  ⟨rNotInT S.K, fun X hX => hX.K ▸ op_notInT (by have := hX.room.un; omega), fun σ H F at_ Q q => ha σ H F at_ _ fun v H1 F1 a1 x1 d1 => hb σ H1 F1 a1 _ fun u H2 F2 a2 x2 d2 => by
    refine ⟨enc x, xs.map enc, (d1.zmono x2.f).zmono a2.hf.le, d2.zmono a2.hf.le, hE.sh (by omega) x, (eqE_T hE).sh (by omega) xs, ?_⟩
    rw [any_dec hE]; exact q H2 F2 a2 (x1.trans x2)⟩
end
end SM

set_option autoImplicit false
set_option Elab.async false
set_option linter.all false
set_option maxRecDepth 100000
set_option maxHeartbeats 4000000
namespace SM
open PySem PySem.Spec PySem.W PySem.SeqAt PyProof.Rows PySem.Calls
/-! ### list.sort(key=f) by an invariant of one's own -/
section
variable {prog : Program} {w : World} {A : Around} {E : Value → Shared → Prop} {s : Shared} {a kS : Addr} {b : Bool} {vs : List Value} {keys : Array Value} {e e1 : Nat} {P : PySem.Fin → Shared → Prop}
theorem keyI_tail {st : SortSt} {out : List Value} (hk : s.heap.get? kS = some (seqObj "list" keys e)) (ha : s.heap.get? a = some (seqObj "list" #[] e1)) (hka : kS ≠ a) (hsz : keys.size ≤ sizeLine) (hz : out.length ≤ sizeLine) (hfl : failedOf st = none)
    (ho : (if b = true then ((arrOf st).map (·.2)).reverse else (arrOf st).map (·.2)) = out.toArray)
    (h : ∀ h' c, h'.get? a = some (seqObj "list" out.toArray c) → (∀ x o, x ≠ a → x ≠ kS → s.heap.get? x = some o → h'.get? x = some o) → P (.done (.ret .none)) { s with heap := h' }) :
    wpAny (model prog w) A (ksk_tail a b e1 (.ref kS) st) P E s := by
  have s1 := Heap.SameBut.update s.heap kS (Obj.mapSeq fun _ => (#[] : Array Value))
  have na1 : (s.heap.update kS (Obj.mapSeq fun _ => (#[] : Array Value))).get? a = some (seqObj "list" #[] e1) := (s1.2 a hka.symm).trans ha
  have s2 := Heap.SameBut.update (s.heap.update kS (Obj.mapSeq fun _ => (#[] : Array Value))) a (Obj.mapSeq fun _ => out.toArray)
  obtain ⟨c2, hc2⟩ : ∃ c2, ((s.heap.update kS (Obj.mapSeq fun _ => (#[] : Array Value))).update a (Obj.mapSeq fun _ => out.toArray)).get? a = some (seqObj "list" out.toArray c2) :=
    ⟨_, get?_update_seq na1 fun _ => out.toArray⟩
  have hz2 : out.toArray.size ≤ sizeLine + 1 := by
    rw [List.size_toArray]
    exact Nat.le_succ_of_le hz
  unfold ksk_tail
  try dsimp only
  rw [ho]
  refine wpAny_bind (listUpdate_at hk rfl ?_ hsz (Nat.zero_le _))
  refine wpAny_bind (wpAny_letGo ?_)
  refine wpAny_bind (seqEpoch_at na1 rfl ?_)
  refine wpAny_bind (listUpdate_at na1 rfl ?_ (Nat.zero_le _) hz2)
  rw [hfl]
  simp only [bne_self_eq_false, Bool.false_eq_true, if_false]
  exact wpAny_pure (h _ c2 hc2 fun x o h1 h2 q => (s2.2 x h1).trans ((s1.2 x h2).trans q))
theorem keyI_end {κ : PyProof.Rows.KeyKind} (hk : s.heap.get? kS = some (seqObj "list" keys e)) (ha : s.heap.get? a = some (seqObj "list" #[] e1)) (hka : kS ≠ a)
    (S : SortsAt prog w A s κ keys.toList) (hsz : keys.size = vs.length) (hZ : vs.length ≤ sizeLine)
    (h : ∀ h' c, h'.get? a = some (seqObj "list" (sortVals κ b keys.toList vs).toArray c) → (∀ x o, x ≠ a → x ≠ kS → s.heap.get? x = some o → h'.get? x = some o) → P (.done (.ret .none)) { s with heap := h' }) :
    wpAny (model prog w) A (ksk_end a b vs.toArray e1 (.ref kS) keys) P E s := by
  obtain ⟨kd, h1, h2⟩ := S.kind
  have hkl : keys.toList.length = vs.length := by
    rw [Array.length_toList]
    exact hsz
  have hK : PyProof.Rows.KeysOf κ (keys.zip vs.toArray) := keysOf_zip S.keys
  have hol : (sortVals κ b keys.toList vs).length = vs.length := sortVals_length b hkl
  have hstart : (if b = true then (keys.zip vs.toArray).reverse else keys.zip vs.toArray).Perm (keys.zip vs.toArray) := by
    cases b with
    | false => exact Array.Perm.refl _
    | true => exact Array.perm_iff_toList_perm.mpr (by rw [if_pos rfl, Array.toList_reverse]; exact List.reverse_perm _)
  have hss : (if b = true then (keys.zip vs.toArray).reverse else keys.zip vs.toArray).size = vs.length := by rw [hstart.size_eq, Array.size_zip, hsz, List.size_toArray, Nat.min_self]
  have fin : ∀ st' : SortSt, (arrOf st').Perm (if b = true then (keys.zip vs.toArray).reverse else keys.zip vs.toArray) → SortedToK κ (arrOf st') (if b = true then (keys.zip vs.toArray).reverse else keys.zip vs.toArray).size →
      Stable κ (arrOf st') (if b = true then (keys.zip vs.toArray).reverse else keys.zip vs.toArray) → (if b = true then ((arrOf st').map (·.2)).reverse else (arrOf st').map (·.2)) = (sortVals κ b keys.toList vs).toArray := by
    intro st' hp hs ht
    have e := sort_out (rev := b) (keys := keys) (items := vs.toArray) (xs := arrOf st') (κ := κ) hK hp hs ht
    have e' := congrArg List.toArray e
    rw [Array.toArray_toList] at e'
    exact e'
  have step : ∀ t : Sem PySem.Fin, wpAny (model prog w) A t P E s → wpAny (model prog w) A (if b = true then (do let _ ← rule "list.sort.reverse"; t) else t) P E s := by
    intro t ht
    split
    · exact wpAny_bind (wpAny_rule ht)
    · exact ht
  unfold ksk_end
  try dsimp only
  refine step _ ?_
  by_cases hl2 : vs.toArray.size < 2
  · rw [if_pos hl2, if_pos hl2]
    refine wpAny_bind (wpAny_pure ?_)
    rw [StateT.run_pure]
    refine wpAny_bind (wpAny_pure ?_)
    try dsimp only
    refine keyI_tail (st := SortSt.mk' general' (if b = true then (keys.zip vs.toArray).reverse else keys.zip vs.toArray) #[] 7 none) hk ha hka (by rw [hsz]; exact hZ) (by rw [hol]; exact hZ) rfl (fin _ (Array.Perm.refl _) ?_ (Stable.refl _)) h
    intro i j hij hj
    rw [hss] at hj
    rw [List.size_toArray] at hl2
    have : i = j := by omega
    subst this
    exact KeyOrd.kle_refl _
  · rw [if_neg hl2, if_neg hl2]
    rw [List.size_toArray] at hl2
    refine wpAny_bind (h2 (by omega) _ ?_)
    refine wpAny_bind (wpAny_mono (H.wpS_sortRunsSt (κ := κ) (kd := kd) (a₀ := if b = true then (keys.zip vs.toArray).reverse else keys.zip vs.toArray)
      (st := SortSt.mk' kd (if b = true then (keys.zip vs.toArray).reverse else keys.zip vs.toArray) #[] 7 none)
      (Q := fun _ st' => failedOf st' = none ∧ (if b = true then ((arrOf st').map (·.2)).reverse else (arrOf st').map (·.2)) = (sortVals κ b keys.toList vs).toArray)
      h1 (hK.perm hstart) ⟨Array.Perm.refl _, rfl, rfl⟩ rfl (Stable.refl _) (by rw [hss]; omega) fun st' a1 a2 a3 a4 => ⟨a2, fin st' a1 a3 a4⟩) ?_ fun _ _ e => e)
    rintro ⟨⟨⟩, st'⟩ s' ⟨rfl, hf, ho⟩
    try dsimp only at ho ⊢
    exact keyI_tail hk ha hka (by rw [hsz]; exact hZ) (by rw [hol]; exact hZ) hf ho h
/-- what f gives for the items so far: ks; Y: what stays -/
theorem keyI_rest {f : Value} (Y : Nat → Shared → List Value → Prop) (hk : s.heap.get? kS = some (seqObj "list" #[] 0)) (ha : s.heap.get? a = some (seqObj "list" #[] e1)) (hka : kS ≠ a) (hZ : vs.length ≤ sizeLine) (h0 : Y 0 s [])
    (turn : ∀ i v s' ks, vs[i]? = some v → Y i s' ks → (∃ o, s'.heap.get? a = some o) → (∃ o, s'.heap.get? kS = some o) → wpAny (model prog w) A (call f [v]) (fun k s2 => (∀ o, s'.heap.get? a = some o → s2.heap.get? a = some o) ∧ (∀ o, s'.heap.get? kS = some o → s2.heap.get? kS = some o) ∧
      ∀ h3, (∀ x, x ≠ kS → h3.get? x = s2.heap.get? x) → Y (i + 1) { s2 with heap := h3 } (ks ++ [k])) (fun _ _ => False) s')
    (fin : ∀ s' ks, Y vs.length s' ks → ∃ κ, SortsAt prog w A s' κ ks ∧ ∀ h' c, h'.get? a = some (seqObj "list" (sortVals κ b ks vs).toArray c) → (∀ x o, x ≠ a → x ≠ kS → s'.heap.get? x = some o → h'.get? x = some o) → P (.done (.ret .none)) { s' with heap := h' }) :
    wpAny (model prog w) A (ksk_rest a f b vs.toArray e1 (.ref kS)) P E s := by
  unfold ksk_rest
  refine wpAny_bind (wpAny_rule ?_)
  first
    | rw [List.forIn_toArray]
    | (rw [← Array.forIn_toList]; simp only [List.toList_toArray])
    | rw [← Array.forIn_toList]
  refine wpAny_bind (ksk_fold (fun i s' => ∃ kA c, Y i s' kA.toList ∧ kA.size = i ∧ s'.heap.get? kS = some (seqObj "list" kA c) ∧ s'.heap.get? a = some (seqObj "list" #[] e1)) vs 0 s ⟨#[], 0, h0, rfl, hk, ha⟩ ?step ?done)
  case step =>
    rintro j x s' hx ⟨kA, c, hY, hl, hk', ha'⟩
    simp only [Nat.zero_add] at hY hl ⊢
    have hj : j < vs.length := (List.getElem?_eq_some_iff.mp hx).1
    refine wpAny_bind (wpAny_attempt (wpAny_mono (turn j x s' _ hx hY ⟨_, ha'⟩ ⟨_, hk'⟩) (fun v s'' he => ?_) fun _ _ hF => hF.elim))
    obtain ⟨k1, k2, k3⟩ := he
    try dsimp only
    have nk := k2 _ hk'
    have na := k1 _ ha'
    have s1 := Heap.SameBut.update s''.heap kS (Obj.mapSeq (·.push v))
    obtain ⟨c2, hc2⟩ : ∃ c2, (s''.heap.update kS (Obj.mapSeq (·.push v))).get? kS = some (seqObj "list" (kA.push v) c2) := ⟨_, get?_update_seq nk (·.push v)⟩
    refine wpAny_bind (listUpdate_at nk rfl ?_ (by rw [hl]; omega) (by rw [Array.size_push, hl]; omega))
    refine wpAny_pure ⟨rfl, kA.push v, c2, ?_, by rw [Array.size_push, hl], hc2, (s1.2 a hka.symm).trans na⟩
    rw [Array.toList_push]
    exact k3 _ fun x hx => s1.2 x hx
  case done =>
    rintro s' ⟨kA, c, hY, hl, hk', ha'⟩
    simp only [Nat.zero_add] at hY hl
    try dsimp only
    refine wpAny_bind (listItems_at hk' rfl ?_)
    obtain ⟨κ, h1, h2⟩ := fin s' _ hY
    exact keyI_end hk' ha' hka h1 hl hZ h2
theorem keyI_tree {f : Value} {n : Nat} (Y : Addr → Nat → Shared → List Value → Prop) (ho : s.heap.get? a = some (seqObj "list" vs.toArray n)) (hZ : vs.length ≤ sizeLine)
    (h0 : ∀ kS h1, s.heap.objs.size ≤ kS → (∀ x o, x ≠ a → s.heap.get? x = some o → h1.get? x = some o) → kS < h1.objs.size → Y kS 0 { s with heap := h1 } [])
    (turn : ∀ kS i v s' ks, s.heap.objs.size ≤ kS → vs[i]? = some v → Y kS i s' ks → (∃ o, s'.heap.get? a = some o) → (∃ o, s'.heap.get? kS = some o) → wpAny (model prog w) A (call f [v]) (fun k s2 => (∀ o, s'.heap.get? a = some o → s2.heap.get? a = some o) ∧ (∀ o, s'.heap.get? kS = some o → s2.heap.get? kS = some o) ∧
      ∀ h3, (∀ x, x ≠ kS → h3.get? x = s2.heap.get? x) → Y kS (i + 1) { s2 with heap := h3 } (ks ++ [k])) (fun _ _ => False) s')
    (fin : ∀ kS s' ks, s.heap.objs.size ≤ kS → Y kS vs.length s' ks → ∃ κ, SortsAt prog w A s' κ ks ∧ ∀ h' c, h'.get? a = some (seqObj "list" (sortVals κ b ks vs).toArray c) → (∀ x o, x ≠ a → x ≠ kS → s'.heap.get? x = some o → h'.get? x = some o) → P (.done (.ret .none)) { s' with heap := h' }) :
    wpAny (model prog w) A (ksk_tree a f b) P E s := by
  have ha : a < s.heap.objs.size := Heap.lt_size ho
  have s1 := Heap.SameBut.update s.heap a (Obj.mapSeq fun _ => (#[] : Array Value))
  obtain ⟨e1, ho1⟩ : ∃ e1, (s.heap.update a (Obj.mapSeq fun _ => (#[] : Array Value))).get? a = some (seqObj "list" #[] e1) := ⟨_, get?_update_seq ho fun _ => #[]⟩
  have hkS : ((s.heap.update a (Obj.mapSeq fun _ => (#[] : Array Value))).push (seqObj "tuple" vs.toArray 0)).objs.size = s.heap.objs.size + 1 := by rw [size_push', Heap.size_update]
  unfold ksk_tree
  refine wpAny_bind (listItems_at ho rfl ?_)
  refine wpAny_bind (listUpdate_at ho rfl ?_ (by rw [List.size_toArray]; exact hZ) (Nat.zero_le _))
  refine wpAny_bind (seqEpoch_at ho1 rfl ?_)
  refine wpAny_bind (wpAny_newTuple ?_ (by show vs.length ≤ _; exact hZ))
  refine wpAny_bind (wpAny_newList ?_ (Nat.zero_le _))
  refine wpAny_holding ?_
  have hle : s.heap.objs.size ≤ ((s.heap.update a (Obj.mapSeq fun _ => (#[] : Array Value))).push (seqObj "tuple" vs.toArray 0)).objs.size := by rw [hkS]; exact Nat.le_succ _
  refine keyI_rest (Y ((s.heap.update a (Obj.mapSeq fun _ => (#[] : Array Value))).push (seqObj "tuple" vs.toArray 0)).objs.size) (s := { s with heap := ((s.heap.update a (Obj.mapSeq fun _ => (#[] : Array Value))).push (seqObj "tuple" vs.toArray 0)).push (seqObj "list" #[] 0) })
    (Heap.get?_push_size _ rfl) (Heap.get?_push_of_some _ (Heap.get?_push_of_some _ ho1)) (by rw [hkS]; exact Nat.ne_of_gt (Nat.lt_succ_of_lt ha)) hZ (h0 _ _ hle (fun x o hx e => Heap.get?_push_of_some _ (Heap.get?_push_of_some _ ((s1.2 x hx).trans e))) (by simp only [size_push']; omega))
    (fun i v s' ks hv hY h1 h2 => turn _ i v s' ks hle hv hY h1 h2) (fun s' ks hY => fin _ s' ks hle hY)
end
end SM
namespace SM
open PySem PySem.Spec PyProof.Rows L2
/-! ### a lambda of one parameter, called -/
structure LamOk1 (N : List Str) (sc scope : Scope) (own : List (Str × Nat)) : Prop extends BlkOk N sc scope own where
  co : scope.isCoroutine = false
  gen : scope.isGenerator = false
  nocell : ∀ y ∈ scope.names, y.2 ≠ .cell
def lam1B (N : List Str) (sc scope : Scope) (own : List (Str × Nat)) : Bool := blkC N sc scope own && (!scope.isCoroutine && (!scope.isGenerator && (scope.names.all fun y => match y.2 with | .cell => false | _ => true)))
theorem lamOk1_by {N : List Str} {sc scope : Scope} {own : List (Str × Nat)} (h : lam1B N sc scope own = true) : LamOk1 N sc scope own := by
  unfold lam1B at h
  simp only [Bool.and_eq_true, Bool.not_eq_true', List.all_eq_true] at h
  obtain ⟨h1, h2, h3, h4⟩ := h
  refine ⟨blkOk_by h1, h2, h3, fun y hy e => ?_⟩
  have := h4 y hy
  rw [e] at this
  cases this
abbrev lam1E (X : Cx) (scope : Scope) (L f : Addr) (code : Value) : Env := PySem.W.envX (X.env.qual ++ "<lambda>") scope L f code (cloFrom X.env.cells scope.names [])
abbrev lam1C (X : Cx) (A' : Around) (s : Shared) (H : Hp) (scope : Scope) (f : Addr) (code : Value) : Cx :=
  { X with A := A'.deeper (lam1E X scope s.heap.objs.size f code), s_0 := s, H_0 := H, env := lam1E X scope s.heap.objs.size f code, outer := X.stack, stack := lam1E X scope s.heap.objs.size f code :: X.stack, ex := [], fn := fun _ => false, calm := true, pn := [], xe := fun _ _ => False }
section
variable {X : Cx} {pins : List (Addr × Obj)} {σ : L2.St} {H : Hp} {s : Shared}
theorem lam1_start {A' : Around} {scope : Scope} {x : Str} {i : Nat} {f : Addr} {code : Value} {u : V} {v : Value} {h₁ : Heap} {tk : Nat} (I : Inv X pins σ H s) (ok : LamOk1 X.N X.env.scope scope [(x, i)]) (hN : X.N.Nodup) (hA : A'.frames = some X.stack) (hd : A'.handled = none) (hx : scope.names.lookup x = some .local) (rv : RelV u v)
    (hns : h₁.Ns s.heap.objs.size fun y => [(x, v)].reverse.lookup y) (kp : ∀ b o, s.heap.get? b = some o → h₁.get? b = some o) :
    Inv (lam1C X A' s H scope f code) [] ((wipe σ [i]).set i (some u)) H { s with heap := h₁, toks := tk } := by
  have hix : X.N[i]? = some x := ok.ix (x, i) (List.mem_singleton.mpr rfl)
  have hiN : i < σ.length := by rw [I.len]; exact (List.getElem?_eq_some_iff.mp hix).1
  have hfree : ∀ y ∈ scope.names, y.2 = .free → ∃ c, X.env.cells.lookup y.1 = some c := fun y hy e => by
    rcases ok.free y hy e with k | k
    · exact I.ok.has _ (.inl k)
    · exact I.ok.has _ (.inr k)
  have cm : ∀ {y c}, (cloFrom X.env.cells scope.names []).lookup y = some c → X.env.cells.lookup y = some c := fun {y c} e => by
    rcases cloFrom_mem (PySem.mem_of_lookup e) with hm | ⟨h1, h2⟩
    · cases hm
    · obtain ⟨c1, hc⟩ := hfree _ h1 rfl
      have hc : X.env.cells.lookup y = some c1 := hc
      have e2 : c = c1 := by
        rw [h2, hc] <;> rfl
      rw [e2]
      exact hc
  have look : ∀ {y}, scope.names.lookup y = some .free → ∃ c, (cloFrom X.env.cells scope.names []).lookup y = some c := fun {y} hl => by
    have hy : (y, NameKind.free) ∈ scope.names := PySem.mem_of_lookup hl
    exact mem_lookup (cloFrom_has (cells := X.env.cells) (acc := []) hy)
  have noA : ∀ b : Addr, b ∉ (lam1C X A' s H scope f code).ex := fun b z => absurd (show b ∈ ([] : List Addr) from z) (by simp)
  have e0 := I.env0
  refine ⟨⟨e0.mod, ok.kind, rfl, rfl, Nat.le_refl _, fun y z c e1 e2 => I.ok.inj y z c (cm e1) (cm e2), fun y hy => ?_, fun y c z _ => ?_, fun _ => hd, Around.frames_deeper hA, .inr ⟨rfl, rfl⟩, fun b z => absurd z (noA b), e0.bs, e0.bsz, fun b _ _ => noA b,
      fun b z => absurd z (noA b), e0.funs, e0.frf⟩,
    rfl, e0.bare, Un.kept kp, ⟨_, hns, fun j y w e1 e2 e3 => ?_⟩, fun y c e => ?_, e0.hok.fresh (Nat.le_refl _), fun y c e => I.freeC y _ (cm e), fun q hq => absurd (show q ∈ ([] : List (Addr × Obj)) ++ [] from hq) (by simp), e0.hok.kept kp, by rw [List.length_set, wipe_length]; exact I.len⟩
  · have hy : scope.names.lookup y = some .cell ∨ scope.names.lookup y = some .free := hy
    rcases hy with hy | hy
    · exact absurd rfl (ok.nocell _ (PySem.mem_of_lookup hy))
    · exact look hy
  · have z : false = true := z
    cases z
  · by_cases hj : j = i
    · subst hj
      have e1 : X.N[j]? = some y := e1
      rw [hix] at e1
      obtain rfl : x = y := Option.some.inj e1
      rw [List.getElem?_set_self (by rw [wipe_length]; exact hiN)] at e2
      obtain rfl : u = w := Option.some.inj (Option.some.inj e2)
      exact ⟨v, rv, .inl ⟨hx, by simp⟩⟩
    · rw [List.getElem?_set_ne (Ne.symm hj)] at e2
      obtain ⟨e2, hne⟩ := wipe_some e2
      have no : ∀ k', scope.names.lookup y = some k' → ¬ (k' = .local ∨ k' = .cell) := fun k' e hh => by
        rcases ok.own _ (PySem.mem_of_lookup e) hh with e' | e'
        · obtain ⟨p, hp, hpy⟩ := List.mem_map.mp e'
          have e3 := ok.ix p hp
          have : p.1 = y := hpy
          rw [this] at e3
          exact hne (List.mem_map.mpr ⟨p, hp, nodup_ix hN e3 e1⟩)
        · exact e' (List.mem_of_getElem? e1)
      have e3 : scope.names.lookup y = some .local ∨ scope.names.lookup y = some .cell ∨ scope.names.lookup y = some .free := e3
      have hfr : scope.names.lookup y = some .free := by
        rcases e3 with e3 | e3 | e3
        · exact absurd (.inl rfl) (no _ e3)
        · exact absurd (.inr rfl) (no _ e3)
        · exact e3
      obtain ⟨m', hn, hl⟩ := I.loc
      have hvis : Vis X.env.scope y := (ok.free _ (PySem.mem_of_lookup hfr) rfl).elim (fun k => .inr (.inl k)) (fun k => .inr (.inr k))
      obtain ⟨w', r, q⟩ := hl j y w e1 e2 hvis
      obtain ⟨c2, h2⟩ := look hfr
      refine ⟨w', r, .inr ⟨.inr hfr, c2, h2, ?_⟩⟩
      have c1 := cm h2
      rcases q with ⟨k', _⟩ | ⟨_, c3, e', z⟩
      · have k' : X.env.scope.names.lookup y = some .local := k'
        rcases ok.free _ (PySem.mem_of_lookup hfr) rfl with k2 | k2 <;> rw [show X.env.scope.names.lookup y = _ from k2] at k' <;> cases k'
      · rw [c1] at e'
        cases e'
        exact z.keeps kp
  · obtain ⟨w', z⟩ := I.cell y c (cm e)
    exact ⟨w', z.keeps kp⟩
/-- f(v), f the lambda -/
theorem lam1_call {A' : Around} {params : Arguments} {body : Expr} {scope : Scope} {x : Str} {i : Nat} {f c' : Addr} {pm ctv : Value} {u : V} {v : Value} {tb : TE} {Q : VK} {k : Nat} (I : Inv X pins σ H s) (ok : LamOk1 X.N X.env.scope scope [(x, i)]) (hN : X.N.Nodup) (hA : A'.frames = some X.stack) (hr : Room (k + 1) A') (hx : scope.names.lookup x = some .local) (rv : RelV u v)
    (hf : s.heap.get? f = some (PySem.W.kla_obj "<lambda>" (X.env.qual ++ "<lambda>") params body scope (cloFrom X.env.cells scope.names []) pm c' ctv)) (hc : H c' = some (LamX.CodeO c' (X.env.qual ++ "<lambda>")))
    (hbind : ∀ v, bindArgs (PySem.W.kla_fn "<lambda>" (X.env.qual ++ "<lambda>") params body scope (cloFrom X.env.cells scope.names []) pm (.ref c') ctv) ⟨[v], []⟩ = pure [(x, v)])
    (hbody : PE (lam1C X A' s H scope f (.ref c')) body tb) (ht : tb ((wipe σ [i]).set i (some u)) H Q) :
    wpAny (model X.prog X.w) A' (call (.ref f) [v]) (fun w s' => ∃ u' H', Inv X pins σ H' s' ∧ Un (frs X.stack) [] H H' s.heap s'.heap ∧ RelV u' w ∧ Q u' H') (fun _ _ => False) s := by
  obtain ⟨⟨oc, vs, t, hoc, hdc, hvc⟩, _, _⟩ := I.hok c' _ hc
  refine wpAny_call ?_
  refine PySem.W.kla_callFunE hr.depth hf rfl ok.co ok.gen rfl ⟨c', oc, vs, t, rfl, hoc, hdc, hvc⟩ ?_
  rw [hbind]
  refine wpAny_pure (wpAny_newFunctionEnv ok.nocell (fun y hy => by rw [List.mem_singleton.mp hy]; exact hx) (fun h₁ hns hsb => ⟨I.nolimit.fresh _ hsb, ?_⟩) ok.kind)
  show codeAny _ _ (.expr body (lam1E X scope s.heap.objs.size f (.ref c'))) _ _
  have kp : ∀ b o, s.heap.get? b = some o → h₁.get? b = some o := fun b o e => hsb.extBut b o (Nat.ne_of_lt (Heap.lt_size e)) (Heap.get?_push_of_some _ e)
  have J := lam1_start (f := f) (code := .ref c') (tk := s.toks + [(x, v)].length) I ok hN hA hr.hd hx rv hns kp
  refine PySem.W.kla_codeExpr (wpAny_mono (hbody.run [] _ _ H Q J ht) (fun w s' hq => ?_) fun e s' hq => hq.elim)
  obtain ⟨w', H', J', rw', q⟩ := hq
  have un : Un (frs X.stack) [] H H' s.heap s'.heap := J'.base
  exact ⟨w', H', I.call' (ch := []) J'.os un J'.hok J'.bare (fun b z => absurd z (by simp)), un, rw', q⟩
end
end SM

set_option autoImplicit false
set_option Elab.async false
set_option linter.all false
set_option maxRecDepth 100000
set_option maxHeartbeats 4000000
namespace SM
open PySem PySem.Spec PyProof.Rows L2
/-! ### a lambda made, with all tables -/
theorem ext_lam {t : Tbs} {H : Hp} {P c : Addr} {q : Str} {ps : Array Value} {pos : Pos} (hm : (P, q) ∈ t.T) (hP : H P = some (.tbl ps)) (nC : H c = none) (ht : TriplesOk ps.toList) : Ext t H (upd (upd H P (.tbl (ps ++ #[rawInt pos.line, rawInt pos.col, .ref c]))) c (LamX.CodeO c q)) := by
  have nPc : P ≠ c := ne_of_none hP nC
  have eL : (ps ++ #[rawInt pos.line, rawInt pos.col, .ref c]).toList = ps.toList ++ [rawInt pos.line, rawInt pos.col, .ref c] := by simp
  have snoc : TriplesOk (ps ++ #[rawInt pos.line, rawInt pos.col, .ref c]).toList := by rw [eL]; exact PySem.TriplesOk_snoc _ _ _ _ ht
  have atP : upd (upd H P (.tbl (ps ++ #[rawInt pos.line, rawInt pos.col, .ref c]))) c (LamX.CodeO c q) P = some (.tbl (ps ++ #[rawInt pos.line, rawInt pos.col, .ref c])) := by rw [upd_ne nPc, upd_same]
  have atE : ∀ b o, b ≠ P → H b = some o → upd (upd H P (.tbl (ps ++ #[rawInt pos.line, rawInt pos.col, .ref c]))) c (LamX.CodeO c q) b = some o := fun b o hb e => by
    rw [upd_ne (ne_of_none e nC), upd_ne hb]; exact e
  have kp : ∀ b o, H b = some o → (∀ z, o ≠ .tbl z) → upd (upd H P (.tbl (ps ++ #[rawInt pos.line, rawInt pos.col, .ref c]))) c (LamX.CodeO c q) b = some o := fun b o e n => by
    refine atE b o (fun z => ?_) e
    rw [z, hP] at e
    exact n ps (Option.some.inj e).symm
  have tb : ∀ a xs, H a = some (.tbl xs) → ∃ ys, upd (upd H P (.tbl (ps ++ #[rawInt pos.line, rawInt pos.col, .ref c]))) c (LamX.CodeO c q) a = some (.tbl ys) ∧ (TriplesOk xs.toList → TriplesOk ys.toList) := fun a xs e => by
    by_cases ha : a = P
    · subst ha
      exact ⟨_, atP, fun _ => snoc⟩
    · exact ⟨xs, atE _ _ ha e, id⟩
  refine ⟨kp, tb, fun L => ⟨fun p hp => ?_, fun Q hQ => ?_⟩⟩
  · obtain ⟨xs, h1, h2, h3⟩ := L.1 p hp
    by_cases hb : p.1 = P
    · obtain rfl : p.2 = q := t.dT p hp _ hm hb
      rw [hb, hP] at h1
      cases h1
      refine ⟨_, by rw [hb]; exact atP, snoc, fun p' cv hv => ?_⟩
      rw [eL] at hv
      rcases LamX.among_app _ h2 hv with z | z
      · obtain ⟨c0, e1, e2⟩ := h3 p' cv z
        exact ⟨c0, e1, kp _ _ e2 LamX.codeO_ne⟩
      · exact ⟨c, z, upd_same⟩
    · refine ⟨xs, atE _ _ hb h1, h2, fun pos cv hv => ?_⟩
      obtain ⟨c0, e1, e2⟩ := h3 pos cv hv
      exact ⟨c0, e1, kp _ _ e2 LamX.codeO_ne⟩
  · obtain ⟨xs, h1, h2, h3⟩ := L.2 Q hQ
    refine ⟨xs, atE _ _ (fun z => t.dN _ hm (z ▸ hQ)) h1, h2, fun pos cv hv => ?_⟩
    obtain ⟨c0, P', e1, e2, ys, e3, e4⟩ := h3 pos cv hv
    obtain ⟨zs, f1, f2⟩ := tb _ _ e3
    exact ⟨c0, P', e1, kp _ _ e2 (fun z y => by unfold CodeT at y; cases y), zs, f1, f2 e4.1, e4.2⟩
section
variable {X : Cx} {pins : List (Addr × Obj)} {σ : L2.St} {H : Hp} {s : Shared}
/-- the lambda is made: its code object is new, or found -/
theorem lam_make3 {t : Tbs} {c P : Addr} {q : Str} {params : Arguments} {body : Expr} {scope : Scope} {pos : Pos} {E Q : Value → Shared → Prop} (I : Inv X pins σ H s) (TB : LamX.TabB X.base X.mg c P) (hcode : X.env.code = .ref c) (hq : X.env.qual ++ "<lambda>" = q)
    (hm : (P, q) ∈ t.T) (hT : LamX.TabS H P q) (hdef : defaultsOf params X.env = ([], [])) (hfree : ∀ y ∈ scope.names, y.2 = .free → ∃ c, X.env.cells.lookup y.1 = some c)
    (h : ∀ (f c' : Addr) (pm ctv : Value) (H1 : Hp) (s' : Shared), Inv X pins σ H1 s' → Ext t H H1 →
      s'.heap.get? f = some (PySem.W.kla_obj "<lambda>" q params body scope (cloFrom X.env.cells scope.names []) pm c' ctv) → H1 f = none → f ∉ frs X.stack → H1 c' = some (LamX.CodeO c' q) → Q (.ref f) s') :
    wpAny (model X.prog X.w) X.A (eval (.Lambda params body scope pos) X.env) Q E s := by
  subst hq
  obtain ⟨ps, hP, ht, ha⟩ := hT
  have hP' : s.heap.get? P = some { cls := .none, data := .fields ps } := I.hok P _ hP
  have off : ∀ f, s.heap.objs.size ≤ f → f ∉ frs X.stack := fun f hf z => by
    rcases List.mem_cons.mp (I.stkSub _ z) with e | e
    · have := I.lt
      rw [← e] at this
      exact absurd (Nat.lt_of_lt_of_le this hf) (Nat.lt_irrefl _)
    · exact I.nofs hf e
  refine PySem.W.kla_eval hdef ?_
  cases hc : codeAmong pos ps.toList with
  | none =>
    refine PySem.W.kla_makeFunction (mg := X.mg) (c := c) (P := P) (ps := ps) (closure_ok hfree) I.ok.glob (I.mod.glob.keeps I.bk) hcode (TB.code.keeps I.bk) hP' ht hc TB.gP (TB.bm.keeps I.bk) fun c' ctv h' tk hx hge hlt hrec htb => ?_
    obtain ⟨c2, oc, vs, tq, e2, hoc, hd, hv⟩ := hrec
    cases e2
    have nC : H c' = none := I.hok.fresh hge
    have x := ext_lam (pos := pos) hm hP nC ht
    refine h h'.objs.size c' _ ctv _ _ (LamX.inv_table (t' := tk) (h' := h'.push _) I hP (fun b o hb e => Heap.get?_push_of_some _ (hx b o hb e)) (Heap.get?_push_of_some _ htb) hge ⟨oc, vs, tq, Heap.get?_push_of_some _ hoc, hd, hv⟩) x (Heap.get?_push_size _ rfl) ?_ (off _ (Nat.le_trans hge (Nat.le_of_lt hlt))) upd_same
    have hsz : s.heap.objs.size ≤ h'.objs.size := Nat.le_trans hge (Nat.le_of_lt hlt)
    rw [upd_ne (Nat.ne_of_gt hlt), upd_ne (Nat.ne_of_gt (Nat.lt_of_lt_of_le (Heap.lt_size hP') hsz))]
    exact I.hok.fresh hsz
  | some cv =>
    obtain ⟨c', e, hco⟩ := ha pos cv hc
    subst e
    refine PySem.W.kla_makeFunctionHit (mg := X.mg) (c := c) (P := P) (ps := ps) (closure_ok hfree) I.ok.glob (I.mod.glob.keeps I.bk) hcode (TB.code.keeps I.bk) hP' ht hc (TB.bm.keeps I.bk) fun ctv h' tk hx hsz => ?_
    exact h h'.objs.size c' _ ctv H _ (I.kept fun b o e => Heap.get?_push_of_some _ (hx b o e)) (Ext.refl H) (Heap.get?_push_size _ rfl) (I.hok.fresh hsz) (off _ hsz) hco
end
/-! ### what sorted, min, max may collect -/
def CollH (K : PySem.W.Frag) (H : Hp) (a : Addr) (us : List V) : Prop := SqL K H a us ∨ SqT K H a us ∨ ∃ lo hi, RgB lo hi ∧ H a = some (.rng lo hi) ∧ us = rgV lo hi
theorem CollH.ext {tb : Tbs} {K : PySem.W.Frag} {H H' : Hp} {a : Addr} {us : List V} (e : Ext tb H H') (h : CollH K H a us) : CollH K H' a us := by
  rcases h with h | h | ⟨lo, hi, h1, h2, h3⟩
  · exact .inl (SqX.ext (k := .l) e h)
  · exact .inr (.inl (SqX.ext (k := .t) e h))
  · exact .inr (.inr ⟨lo, hi, h1, e.keep _ _ h2 (fun _ z => by cases z), h3⟩)
def CollJ (S : Stat) (γ : Gm) (e : Expr) (ds : List PyData) : Prop := EW S γ e fun v _ H' F' => ∃ a us, v = .ref a ∧ CollH S.K H' a us ∧ DpAll S.K F' us ds
section
variable {S : Stat} {γ : Gm} {a b e : Expr} {pos p : Pos} {ds ds' : List PyData}
theorem QJ.coll {k : SK} (h : QJ S γ e k ds) : CollJ S γ e ds := EW.imp h fun v H H' F' at_ ⟨a, vs, e1, h1, h2⟩ => ⟨a, vs, e1, by cases k with | l => exact .inl h1 | t => exact .inr (.inl h1), h2⟩
theorem CollJ.of (h : CollJ S γ e ds) (e1 : ds = ds') : CollJ S γ e ds' := e1 ▸ h
theorem cr_range1 {X : Cx} : CallR X (.type "range") (fun vs H Q => ∃ j, vs = [V.int j] ∧ ∀ p, H p = none → Q (.ref p) (upd H p (.rng 0 j))) := by
  intro pins s σ H vs us Q I r h
  obtain ⟨j, rfl, q⟩ := h
  obtain ⟨w1, rfl, e1⟩ := vals1 r
  obtain ⟨t, rfl⟩ := e1
  refine call_range_1 ⟨.ref s.heap.objs.size, upd H s.heap.objs.size (.rng 0 j), I.laid (fun b o e => Heap.get?_push_of_some _ e) (Nat.le_refl _) ?_, rfl, q _ (I.hok.fresh (Nat.le_refl _))⟩
  exact ⟨_, _, _, Heap.get?_push_size _ rfl⟩
theorem dp_rg {K : PySem.W.Frag} {F : Hp} {lo hi : Int} : DpAll K F (rgV lo hi) ((rng lo hi).map .int) := by
  unfold rgV rng
  rw [List.map_map]
  generalize List.range (hi - lo).toNat = l
  induction l with
  | nil => exact .nil
  | cons x r ih => exact .cons (.int _) ih
theorem coll_range1 {y : Int} {xs : List Int} (hg : IsGl S "range") (hm : S.mg "range" = none) (ha : EJ S γ a (.int y)) (hs : PlainE a) (h : rngO 0 y = some xs) : CollJ S γ (.Call (.Name "range" p) [a] [] pos) (xs.map .int) := by
  obtain ⟨h1, h2⟩ := rngO_c h
  subst h2
  exact w_t1 (fun X hX => cr_range1) hg hm boot_range hs ha (fun v H0 F0 H F Q at_ x d1 k2 => by
    cases d1
    exact ⟨y, rfl, fun l hl => k2 _ _ _ (at_.hf.newH hl) (ex_newH hl) ⟨l, _, rfl, .inr (.inr ⟨0, y, h1, upd_same, rfl⟩), dp_rg⟩⟩) (by decide) (by decide)
theorem coll_range2 {x y : Int} {xs : List Int} (hg : IsGl S "range") (hm : S.mg "range" = none) (ha : EJ S γ a (.int x)) (hb : EJ S γ b (.int y)) (hs : PlainE a) (hs2 : PlainE b) (hpl : ∀ X : Cx, (backTo pos (starEach [b] X.env)).any (·.1) = false) (h : rngO x y = some xs) : CollJ S γ (.Call (.Name "range" p) [a, b] [] pos) (xs.map .int) := by
  obtain ⟨h1, h2⟩ := rngO_c h
  subst h2
  exact fun σ H F at_ Q q => wE_of (fun X hX => pe_callTy cr_range2 (hX.gl hg) (hX.mgn hm) boot_range (pa_cons (pe_w hX) (pa_cons (pe_w hX) pa_nil (hs2 [] X.env)) (hs [b] X.env)) (by decide) (by decide) (hs [b] X.env) (hpl X)) (ha σ H F at_ _ fun v H1 F1 a1 x1 d1 => hb σ H1 F1 a1 _ fun u H2 F2 a2 x2 d2 => by
    cases d1; cases d2
    exact ⟨x, y, rfl, fun l hl => q _ _ _ (a2.ex (ex_newH hl) (a2.hf.newH hl)) ((x1.trans x2).trans (ex_newH hl)) ⟨l, _, rfl, .inr (.inr ⟨x, y, h1, upd_same, rfl⟩), dp_rg⟩⟩)
theorem coll_w {X : Cx} {A : Around} {pins : List (Addr × Obj)} {σ : L2.St} {H : Hp} {s : Shared} {l : Addr} {us : List V} (I : Inv X pins σ H s) (hh : A.handled = none) (hc : CollH X.K H l us) : us.length ≤ sizeLine ∧ CollW X.prog X.w A s (.ref l) (fun vs => Vals us vs) := by
  rcases hc with hs | hs | ⟨lo, hi, ⟨b1, b2, b3, b4⟩, h2, h3⟩
  · obtain ⟨its, rv, hl, hz⟩ := I.list hs
    obtain ⟨o, ho, hc, m, hdt⟩ := hl.isList
    exact ⟨hz, fun E' Q' h => coll_seq (.inl rfl) ho hc hdt (by rw [List.size_toArray, ← rv.length]; exact hz) E' Q' fun vs h' tk g => h vs h' tk (by rw [g]; exact rv)⟩
  · obtain ⟨its, rv, hl, hz⟩ := I.tuple hs
    obtain ⟨o, ho, hc, m, hdt⟩ := hl
    exact ⟨hz, fun E' Q' h => coll_seq (.inr rfl) ho hc hdt (by rw [List.size_toArray, ← rv.length]; exact hz) E' Q' fun vs h' tk g => h vs h' tk (by rw [g]; exact rv)⟩
  · subst h3
    obtain ⟨t, u, v, hr⟩ := I.hok l _ h2
    refine ⟨by rw [rgV_length, sizeLine_eq]; omega, fun E' Q' h => collect_range (n := (hi - lo).toNat) hh hr (small_one (by omega) (by omega) (by omega) (by omega)) (rangeSize_nat lo hi) (by omega) fun h' tk acc hk hi => h _ h' tk (vals_rg hi) hk⟩
end
end SM

set_option autoImplicit false
set_option Elab.async false
set_option linter.all false
set_option maxRecDepth 100000
set_option maxHeartbeats 4000000
namespace SM
open PySem PySem.Spec PyProof.Rows L2
open PySem.W (EachIs AllAlike)
/-! ### the lambda's static part -/
def Stat.lam (S : Stat) (scope : Scope) (code : Value) : Stat := { S with sc := scope, fn := fun _ => false, k := S.k - 3, code := code, qual := S.qual ++ "<lambda>" ++ ".<locals>." }
theorem IsCx.lam {S : Stat} {X : Cx} (hX : IsCx S X) (hk : 3 ≤ S.k) {A' : Around} (hr : Room (S.k - 2) A') (s : Shared) (H : Hp) (scope : Scope) (f : Addr) (code : Value) : IsCx (S.lam scope code) (lam1C X A' s H scope f code) where
  prog := hX.prog
  w := hX.w
  K := hX.K
  mg := hX.mg
  base := hX.base
  N := hX.N
  sc := rfl
  fn := rfl
  room := by
    obtain ⟨k, hk⟩ : ∃ k, S.k = k + 3 := ⟨S.k - 3, by omega⟩
    rw [hk] at hr
    show Room (S.k - 3) _
    rw [hk]
    exact Room.deeper hr _
  calm := rfl
  code := rfl
  xe := rfl
  qual := by
    show X.env.qual ++ "<lambda>" ++ ".<locals>." = S.qual ++ "<lambda>" ++ ".<locals>."
    rw [hX.qual]
section
variable {S : Stat} {γ : Gm} {σ : L2.St} {H F : Hp}
theorem AtH.lam (scope : Scope) (code : Value) (h : AtH S H F) : AtH (S.lam scope code) H F := ⟨h.ext, h.hf, h.f0, h.new, h.tabs⟩
theorem Own.lam (scope : Scope) (code : Value) {a : Addr} {d : PyData} (h : Own S H F a d) : Own (S.lam scope code) H F a d := by
  cases d <;> first | exact h | exact h.elim
theorem At.lam (scope : Scope) (code : Value) (h : At S γ σ H F) : At (S.lam scope code) γ σ H F where
  toAtH := h.toAtH.lam scope code
  len := h.len
  lk := h.lk
  sh := h.sh
  ow := fun i d e => let ⟨a, h1, h2⟩ := h.ow i d e; ⟨a, h1, Own.lam scope code h2⟩
  apart := h.apart
end
/-! ### keys -/
def keyM {α β : Type} (g : α → Option β) : List α → Option (List (α × β))
  | [] => some []
  | x :: xs => (g x).bind fun k => (keyM g xs).bind fun r => some ((x, k) :: r)
theorem keyM_fst {α β : Type} {g : α → Option β} : ∀ {xs : List α} {ps : List (α × β)}, keyM g xs = some ps → ps.map (·.1) = xs
  | [], ps, h => by cases h; rfl
  | x :: xs, ps, h => by
    unfold keyM at h
    obtain ⟨k, h1, h⟩ := Option.bind_eq_some_iff.mp h
    obtain ⟨r, h2, h⟩ := Option.bind_eq_some_iff.mp h
    cases h
    rw [List.map_cons, keyM_fst h2]
theorem keyM_get {α β : Type} {g : α → Option β} : ∀ {xs : List α} {ps : List (α × β)}, keyM g xs = some ps → ∀ (i : Nat) (x : α), xs[i]? = some x → ∃ k, ps[i]? = some (x, k) ∧ g x = some k
  | [], ps, h, i, x, e => by simp at e
  | y :: xs, ps, h, i, x, e => by
    unfold keyM at h
    obtain ⟨k, h1, h⟩ := Option.bind_eq_some_iff.mp h
    obtain ⟨r, h2, h⟩ := Option.bind_eq_some_iff.mp h
    cases h
    cases i with
    | zero => cases e; exact ⟨k, rfl, h1⟩
    | succ i => exact keyM_get h2 i x e
/-- sorted(xs, key=g) -/
def sortKM {α β : Type} [LtE β] (g : α → Option β) (xs : List α) : Option (List α) := (keyM g xs).map fun ps => (ps.mergeSort fun a b => !LtE.lt b.2 a.2).map (·.1)
/-- how the lambda is bound to its argument -/
def LamBind (params : Arguments) (body : Expr) (scope : Scope) (x : Str) : Prop := ∀ (q : Str) (cl : List (Str × Addr)) (pm cv ctv v : Value), bindArgs (PySem.W.kla_fn "<lambda>" q params body scope cl pm cv ctv) ⟨[v], []⟩ = pure [(x, v)]
section
variable {X : Cx} {pins : List (Addr × Obj)} {σ : L2.St} {H : Hp} {s : Shared}
theorem off_frs (I : Inv X pins σ H s) : ∀ f, s.heap.objs.size ≤ f → f ∉ frs X.stack := fun f hf z => by
  rcases List.mem_cons.mp (I.stkSub _ z) with e | e
  · have := I.lt
    rw [← e] at this
    exact absurd (Nat.lt_of_lt_of_le this hf) (Nat.lt_irrefl _)
  · exact I.nofs hf e
end
section
variable {S : Stat} {γ : Gm} {a : Expr} {pos p lpos kpos : Pos} {α β : Type} {encA : α → PyData} {encK : β → PyData} {n i : Nat} {xs : List α} {ps : List (α × β)} {g : α → Option β} {params : Arguments} {body : Expr} {scope : Scope} {x : Str}
/-- one call of the lambda -/
theorem lam_turn {X : Cx} (hX : IsCx S X) {pins : List (Addr × Obj)} {σ : L2.St} {H F : Hp} {s : Shared} {A' : Around} {f c' : Addr} {pm ctv : Value} {u : V} {v : Value} {y : α} {k : β} (I : Inv X pins σ H s) (at_ : At S γ σ H F) (hk : 3 ≤ S.k) (hr : Room (S.k - 2) A') (hA : A'.frames = some X.stack)
    (hN : S.N.Nodup) (ok : lam1B S.N S.sc scope [(x, i)] = true) (hx : scope.names.lookup x = some .local) (hbd : LamBind params body scope x)
    (hf : s.heap.get? f = some (PySem.W.kla_obj "<lambda>" (X.env.qual ++ "<lambda>") params body scope (cloFrom X.env.cells scope.names []) pm c' ctv)) (hc : H c' = some (LamX.CodeO c' (X.env.qual ++ "<lambda>")))
    (rv : RelV u v) (dv : Dp S.K F u (encA y)) (hb : EO (S.lam scope (.ref c')) ((wipeG γ [i]).set i (.sh (encA y))) body encK (some k)) :
    wpAny (model X.prog X.w) A' (call (.ref f) [v]) (fun w s' => ∃ u' H' F', Inv X pins σ H' s' ∧ At S γ σ H' F' ∧ Ex2 S.tabs H F H' F' ∧ Un (frs X.stack) [] H H' s.heap s'.heap ∧ RelV u' w ∧ Dp S.K F' u' (encK k)) (fun _ _ => False) s := by
  have at2 : At (S.lam scope (.ref c')) ((wipeG γ [i]).set i (.sh (encA y))) ((wipe σ [i]).set i (some u)) H F := ((at_.wipe [i]).lam scope (.ref c')).setSh (S := S.lam scope (.ref c')) dv
  have hkr : ∃ m, S.k - 2 = m + 1 := ⟨S.k - 3, by omega⟩
  obtain ⟨m, hm⟩ := hkr
  refine thn (lam1_call (k := m) (Q := fun u' H' => ∃ F', At S γ σ H' F' ∧ Ex2 S.tabs H F H' F' ∧ Dp S.K F' u' (encK k)) I (by rw [hX.N, hX.sc]; exact lamOk1_by ok) (by rw [hX.N]; exact hN) hA (by rw [← hm]; exact hr) hx rv hf hc (fun v => hbd _ _ _ _ _ v) (pe_w (hX.lam hk hr s H scope f (.ref c')))
    (hb k rfl _ H F at2 _ fun w H' F' a3 x3 d3 => ⟨F', at_.ex x3 a3.hf, x3, d3⟩)) fun w s' ⟨u', H', I', un, r', F', a4, x4, d4⟩ => ⟨u', H', F', I', a4, x4, un, r', d4⟩
theorem f_sortedK [iβ : LtE β] {c P : Addr} {ys : List α} (hO : OrdE encK n) (hn : n ≤ 60) (hk : 3 ≤ S.k) (hc : S.code = .ref c) (hT : (P, S.qual ++ "<lambda>") ∈ S.tabs.T) (TB : LamX.TabB S.base S.mg c P) (hg : IsGl S "sorted") (hm : S.mg "sorted" = none)
    (ha : CollJ S γ a (xs.map encA)) (hs : PlainE a) (hb : ∀ code, ∀ y ∈ xs, EO (S.lam scope code) ((wipeG γ [i]).set i (.sh (encA y))) body encK (g y)) (hr : sortKM g xs = some ys) (hN : S.N.Nodup) (ok : lam1B S.N S.sc scope [(x, i)] = true) (hx : scope.names.lookup x = some .local)
    (hdef : ∀ X : Cx, defaultsOf params X.env = ([], [])) (hbd : LamBind params body scope x) :
    FJ S γ (.Call (.Name "sorted" p) [a] [⟨some "key", .Lambda params body scope lpos, kpos⟩] pos) (ys.map encA) := fun σ H F at_ Q q X hX pins s I => by
  obtain ⟨ps, hps, hys⟩ : ∃ ps, keyM g xs = some ps ∧ ys = (ps.mergeSort fun a b => !LtE.lt b.2 a.2).map (·.1) := by
    unfold sortKM at hr
    obtain ⟨ps, h1, h2⟩ := Option.map_eq_some_iff.mp hr
    exact ⟨ps, h1, h2.symm⟩
  have hfst := keyM_fst hps
  have hpl : ps.length = xs.length := by rw [← hfst, List.length_map]
  refine wpAny_Call_Name_kw (ld_blt I (hX.gl hg) (hX.mgn hm) boot_sorted ?_ (by decide) (by decide))
  have ra := (pa_cons (pe_w hX) pa_nil (hs [] X.env)).run pos pins s σ H (fun vs H1 => ∃ v F1, vs = [v] ∧ At S γ σ H1 F1 ∧ Ex2 S.tabs H F H1 F1 ∧ ∃ l us, v = .ref l ∧ CollH S.K H1 l us ∧ DpAll S.K F1 us (xs.map encA)) I (ha σ H F at_ _ fun v H1 F1 a1 x1 p1 => ⟨v, F1, rfl, a1, x1, p1⟩)
  refine callWith_kw (thn ra fun us0 s1 ⟨vs, H1, I1, r1, v, F1, e1, a1, x1, l, us, e2, hc1, hd1⟩ => ?_) (congrArg (backTo pos) (hs [] X.env)) (by rw [hs [] X.env]; rfl) rfl rfl
  subst e1; subst e2
  obtain rfl := Vals.ref1 r1
  show wpAny _ _ (evalAll ((do let v ← eval (.Lambda params body scope lpos) X.env; standAt pos; pure v) :: [])) _ _ s1
  have hq : X.env.qual ++ "<lambda>" = S.qual ++ "<lambda>" := by rw [hX.qual]
  have okX : LamOk1 X.N X.env.scope scope [(x, i)] := by rw [hX.N, hX.sc]; exact lamOk1_by ok
  have hfree : ∀ y ∈ scope.names, y.2 = .free → ∃ c, X.env.cells.lookup y.1 = some c := fun y hy e => by
    rcases okX.free y hy e with k | k
    · exact I1.ok.has _ (.inl k)
    · exact I1.ok.has _ (.inr k)
  refine wpAny_evalAll_cons (wpAny_bind (lam_make3 (t := S.tabs) I1 (by rw [hX.base, hX.mg]; exact TB) (by rw [hX.code]; exact hc) hq hT (a1.tabs.2.1 _ hT) (hdef X) hfree fun f c' pm ctv H2 s2 I2 x2 hf hfn hfr hco => wpAny_bind (wpAny_standAt (wpAny_pure ?_))))
  refine wpAny_evalAll_nil ?_
  rw [← hq] at hf hco
  show wpAny _ _ (call (.builtin "sorted") [.ref l] [(Str.ofString "key", .ref f)]) _ _ s2
  have x2' : Ex2 S.tabs H1 F1 H2 F1 := ⟨x2, Le.refl F1, fun a o e n => by rw [n] at e; cases e⟩
  have a2 : At S γ σ H2 F1 := a1.ex x2' ⟨a1.hf.ext x2, a1.hf.ntb⟩
  have hh : X.A.handled = none := I2.ok.hd hX.calm
  obtain ⟨hz, hcw⟩ := coll_w (A := X.A.in1) I2 (show X.A.in1.handled = none from hh) (by rw [hX.K]; exact hc1.ext x2)
  have hlx : us.length = xs.length := by rw [hd1.zlen, List.length_map]
  refine sorted_of_coll hcw (fun vs r => by rw [← r.length]; exact hz) (PyProof.Rows.ksk_s1 _ _) (fun _ => PyProof.Rows.ksk_l1 _ _) fun vs h' tk rvs kp E' => ?_
  rw [PyProof.Rows.ksk_t1]
  have hvl : vs.length = ps.length := by rw [← rvs.length, hlx, hpl]
  have hkr : ∃ m, S.k = m + 2 := ⟨S.k - 2, by omega⟩
  have hrA : Room (S.k - 2) X.A.in1.in1 := by
    have h := hX.room
    obtain ⟨m, hm⟩ := hkr
    rw [hm] at h ⊢
    exact Room.in1 (Room.in1 h)
  have I3 : Inv X pins σ H2 { s2 with heap := h'.push (PyProof.Rows.seqObj "list" vs.toArray 0), toks := tk } := I2.kept fun b o e => Heap.get?_push_of_some _ (kp b o e)
  have n2 : ∀ b, h'.objs.size ≤ b → H2 b = none := fun b hb => (I2.kept (t' := tk) kp).hok.fresh hb
  have hD : FpOk X pins H2 h'.objs.size := (I2.kept (t' := tk) kp).fpOk (Nat.le_refl _) (n2 _ (Nat.le_refl _))
  have hDf : h'.objs.size ∉ frs X.stack := off_frs (I2.kept (t' := tk) kp) _ (Nat.le_refl _)
  have hfl : f < h'.objs.size := Heap.lt_size (kp _ _ hf)
  have hsz : (h'.push (PyProof.Rows.seqObj "list" vs.toArray 0)).objs.size = h'.objs.size + 1 := size_push' _ _
  refine keyI_tree (fun kS j s' ks => ∃ H3 F3 us', Inv X pins σ H3 s' ∧ At S γ σ H3 F3 ∧ Ex2 S.tabs H F H3 F3 ∧ Le F1 F3 ∧ Vals us' ks ∧ DpAll S.K F3 us' ((ps.take j).map fun b => encK b.2) ∧ FpOk X pins H3 h'.objs.size ∧ FpOk X pins H3 kS ∧
      s'.heap.get? f = some (PySem.W.kla_obj "<lambda>" (X.env.qual ++ "<lambda>") params body scope (cloFrom X.env.cells scope.names []) pm c' ctv) ∧ H3 f = none ∧ H3 c' = some (LamX.CodeO c' (X.env.qual ++ "<lambda>"))) (Heap.get?_push_size _ rfl) (by rw [hvl, hpl, ← hlx]; exact hz) ?h0 ?turn ?fin
  case h0 =>
    intro kS h1 hkS hk1 hlt
    have I4 := I3.turnedL (h' := h1) (t' := tk) (ch := [h'.objs.size]) (fun b o hb e => hk1 b o (by simpa using hb) e) (fun b hb => by rw [List.mem_singleton.mp hb]; exact hD)
    have hk2 : H2 kS = none := I3.hok.fresh hkS
    exact ⟨H2, F1, [], I4, a2, x1.trans x2', Le.refl F1, .nil, by rw [List.take_zero]; exact .nil, hD, I3.fpOk hkS hk2, hk1 _ _ (Nat.ne_of_lt hfl) (Heap.get?_push_of_some _ (kp _ _ hf)), hfn, hco⟩
  case turn =>
    rintro kS j v s' ks hkS hv ⟨H3, F3, us', I4, a4, x4, l4, rk, dk, fD, fK, hf4, hfn4, hc4⟩ ⟨oD, hoD⟩ ⟨oK, hoK⟩
    have hjl : j < vs.length := (List.getElem?_eq_some_iff.mp hv).1
    have hju : j < us.length := by rw [rvs.length]; exact hjl
    obtain ⟨v', hv', ru⟩ := rvs.get (List.getElem?_eq_getElem hju)
    rw [hv] at hv'
    cases hv'
    obtain ⟨d, hd, dv⟩ := hd1.zget' (List.getElem?_eq_getElem hju)
    have hjx : j < xs.length := by omega
    rw [List.getElem?_map, List.getElem?_eq_getElem hjx] at hd
    obtain rfl : encA xs[j] = d := Option.some.inj hd
    obtain ⟨k, hpk, hgk⟩ := keyM_get hps j _ (List.getElem?_eq_getElem hjx)
    have hKf : kS ∉ frs X.stack := off_frs I3 kS hkS
    have hKne : f ≠ kS := fun z => by
      have h9 : f < kS := Nat.lt_of_lt_of_le hfl (Nat.le_trans (by rw [hsz]; exact Nat.le_succ _) hkS)
      rw [z] at h9; exact absurd h9 (Nat.lt_irrefl _)
    refine thn (lam_turn (encK := encK) (y := xs[j]) (k := k) hX I4 a4 hk hrA (show X.A.in1.in1.frames = some X.stack from I2.ok.frames) hN ok hx hbd hf4 hc4 ru (dv.zmono l4) (by rw [← hgk]; exact hb _ _ (List.getElem_mem hjx))) fun w s5 ⟨u', H5, F5, I5, a5, x5, un, rw', d5⟩ => ?_
    have free : ∀ b o, s'.heap.get? b = some o → H3 b = none → H5 b = none := fun b o e n => un.free b o e n (by simp)
    refine ⟨fun o e => un.keep _ o e fD.1 hDf (by simp), fun o e => un.keep _ o e fK.1 hKf (by simp), fun h3 hk3 => ?_⟩
    have fK5 : FpOk X pins H5 kS := ⟨free _ _ hoK fK.1, fK.2⟩
    have I6 := I5.turnedL (h' := h3) (t' := s5.toks) (ch := [kS]) (fun b o hb e => by rw [hk3 b (by simpa using hb)]; exact e) (fun b hb => by rw [List.mem_singleton.mp hb]; exact fK5)
    refine ⟨H5, F5, us' ++ [u'], I6, a5, x4.trans x5, l4.trans x5.f, rk.append (.cons rw' .nil), ?_, ⟨free _ _ hoD fD.1, fD.2⟩, fK5, ?_, free _ _ hf4 hfn4, x5.h.keep c' _ hc4 LamX.codeO_ne⟩
    · rw [List.take_add_one, hpk, List.map_append]
      exact (dk.zmono x5.f).zapp (.cons d5 .nil)
    · show h3.get? f = _
      rw [hk3 f hKne]
      exact un.keep f _ hf4 hfn4 hfr (by simp)
  case fin =>
    rintro kS s' ks hkS ⟨H3, F3, us', I4, a4, x4, l4, rk, dk, fD, fK, hf4, hfn4, hc4⟩
    rw [hvl, List.take_length, ← hX.K] at dk
    have hd3 : DpAll X.K F3 us (ps.map fun b => encA b.1) := by
      have := hd1.zmono l4
      rw [← hfst, List.map_map, ← hX.K] at this
      exact this
    obtain ⟨e1, e2⟩ := each_dp (enc := fun b : α × β => encK b.2) a4.hf.le I4 rk dk
    obtain ⟨e3, _⟩ := each_dp (enc := fun b : α × β => encA b.1) a4.hf.le I4 rvs hd3
    have hal : AllAlike (ps.map fun b => encK b.2) := PySem.W.AllAlike.of fun x y => hO.al _ _
    have hkd : SortableA (ps.map fun b => encK b.2) := by
      have := hO.sortable (ps.map (·.2))
      rw [List.map_map] at this
      exact this
    have hun := hX.room.un
    refine ⟨PySem.W.dataKind s'.heap (ps.map fun b => encK b.2), sortsAt_any (s := s') (PySem.W.each_map (R := fun v d => ∃ as, Reads s'.heap v d as) (fun b : α × β => encK b.2) e2) hal hkd (PySem.W.bound_map (A := X.A.in1.in1) fun b _ => by
      have := hO.dep b.2
      show X.A.units + 1 + 1 + (encK b.2).depth < cLine
      omega), fun h9 c9 hD9 hk9 => ⟨rfl, ?_⟩⟩
    have eo := PySem.W.sortVals_each (rev := false) (κ := PySem.W.dataKind s'.heap (ps.map fun b => encK b.2)) (fun b : α × β => PySem.W.keyToks (encK b.2)) e3 (PySem.W.each_of_map (fun b : α × β => encK b.2) (PySem.W.each_keys hal (PySem.W.each_map (R := fun v d => ∃ as, Reads s'.heap v d as) (fun b : α × β => encK b.2) e2)))
    have hle : (PySem.W.dataLe false fun b : α × β => encK b.2) = fun a b => !LtE.lt b.2 a.2 := by
      funext a b
      show (!PySem.W.dataLt (encK b.2) (encK a.2)) = _
      rw [hO.lt]
    have eo' : EachIs (fun v (b : α × β) => ∃ u, RelV u v ∧ Dp X.K F3 u (encA b.1)) (PySem.W.sortVals (PySem.W.dataKind s'.heap (ps.map fun b => encK b.2)) false ks vs) (ps.mergeSort fun a b => !LtE.lt b.2 a.2) := by
      rw [← hle]; exact eo
    obtain ⟨us9, rv9, d9⟩ := each_back (X := X) (H := F3) (enc := fun b : α × β => encA b.1) eo'
    have hkl : ks.length = vs.length := by rw [e1.length, hvl]
    have hul : us9.length ≤ sizeLine := by rw [rv9.length, PySem.W.sortVals_length false hkl, ← rvs.length]; exact hz
    have I9 := I4.turnedL (h' := h9) (t' := s'.toks) (ch := [h'.objs.size, kS]) (fun b o hb e => hk9 b o (fun z => hb (by simp [z])) (fun z => hb (by simp [z])) e) (fun b hb => by
      rcases List.mem_cons.mp hb with z | z
      · rw [z]; exact fD
      · rw [List.mem_singleton.mp z]; exact fK)
    have I10 := Inv.take (h' := h9) (t' := s'.toks) (o := .lst us9) I9 (fun b ob _ e => e) fD ⟨hul, _, c9, rv9, hD9⟩
    refine ⟨.ref h'.objs.size, _, I10, rfl, q _ _ F3 (a4.ex (ex_newH fD.1) (a4.hf.newH fD.1)) (x4.trans (ex_newH fD.1)) ⟨_, us9, rfl, x4.h.back fD.1, a4.hf.fnone fD.1, upd_same, ?_⟩⟩
    rw [hys, List.map_map, ← hX.K]
    exact d9
end
end SM

set_option autoImplicit false
set_option Elab.async false
set_option linter.all false
set_option maxRecDepth 100000
set_option maxHeartbeats 4000000
namespace SM
open PySem PySem.Spec PyProof.Rows
/-! ### min and max by a key, by an invariant of one's own -/
section
variable {prog : Program} {w : World} {A : Around} {R : Result → Shared → Prop} {I q : Addr} {fp wr : List Addr} {G : Array GenState → Array GenState → Prop} {n : Nat} {P : Nat → Value → Prop} {St : Nat → Shared → Prop}

theorem minK_loop (W : WalksS prog w A.in1 I fp wr G n P St) (S : Addr) (hSf : S ∉ fp) (Y : Nat → Value → Value → Shared → Prop) (keep : ∀ j vb kb s s', Y j vb kb s → Moved (S :: wr) G s s' → Y j vb kb s')
    (turn : ∀ j vb kb v s o, j + 1 < n → P (j + 1) v → Y j vb kb s → St (j + 2) s → s.heap.get? S = some o → wpAny (model prog w) A.in1 (call (.ref q) [v]) (fun kx s2 => St (j + 2) s2 ∧ s2.heap.get? S = some o ∧
      ∃ c : Bool, (∀ (Q E : Value → Shared → Prop), Q (.bool c) s2 → wpAny (model prog w) A.in1 (richCompare .Lt kx kb) Q E s2) ∧ (c = true → Y (j + 1) v kx s2) ∧ (c = false → Y (j + 1) vb kb s2)) (fun _ _ => False) s) (kw : List (Str × Value)) :
    ∀ (k j : Nat) (s : Shared) (vb kb : Value) (c : Nat), n - (j + 1) = k → j + 1 ≤ n → Y j vb kb s → St (j + 1) s →
    s.heap.get? S = some { cls := .type "list", dict := none, data := .seq #[vb, kb] c, slots := #[] } →
    (∀ vb kb s', Y (n - 1) vb kb s' → R (.ok (.ret vb)) s') → codeAny (model prog w) A (.builtin "min.loop" ⟨[.ref I, .ref q, .ref S], kw⟩) R s := by
  have hSw : S ∉ wr := fun h => hSf (W.sub _ h)
  have up : ∀ b ∈ wr, b ∈ S :: wr := fun b hb => List.mem_cons_of_mem _ hb
  have nm : (toString "min" ++ toString ".loop" : String) = "min.loop" := by decide
  have nS : ∀ {b : Addr}, b ∉ S :: wr → S ≠ b := fun hb h => hb (by rw [h]; exact List.mem_cons_self)
  intro k
  induction k with
  | zero =>
    intro j s vb kb c hk hj hY hst hS hR
    have hin : j + 1 = n := by omega
    refine codeAny_builtin PySem.F.entry_min_loop ?_
    rw [Around.under_plainId PySem.F.plain_min_loop _]
    show wpAny _ A.in1 (seqItems? (.ref S) >>= _) _ _ s
    refine wpAny_bind (wpAny_seqItems hS rfl ?_)
    show wpAny _ A.in1 (tryCatch (pyNext (.ref I)) _ >>= _) _ _ s
    refine wpAny_bind (wpAny_tryCatch (W.done s _ _ (hin ▸ hst) fun s' hm => ?_))
    have hS1 := hm.heap S _ hSw hS
    show wpAny _ A.in1 (updateSeq S (fun _ => #[]) >>= _) _ _ _
    refine wpAny_bind (wpAny_updateSeq hS1 rfl (wpAny_bind (wpAny_letGo (wpAny_pure ?_))))
    obtain rfl : n - 1 = j := by omega
    exact hR vb kb _ (keep _ _ _ _ _ hY ((hm.mono up).then_heap (tk := s'.toks) (Nat.le_refl _) fun b o hb e => (Heap.get?_update_other _ _ (nS hb)).trans e))
  | succ k ih =>
    intro j s vb kb c hk hj hY hst hS hR
    have hlt : j + 1 < n := by omega
    refine codeAny_builtin PySem.F.entry_min_loop ?_
    rw [Around.under_plainId PySem.F.plain_min_loop _]
    show wpAny _ A.in1 (seqItems? (.ref S) >>= _) _ _ s
    refine wpAny_bind (wpAny_seqItems hS rfl ?_)
    show wpAny _ A.in1 (tryCatch (pyNext (.ref I)) _ >>= _) _ _ s
    refine wpAny_bind (wpAny_tryCatch (W.item (j + 1) s _ _ hlt hst fun v s' hP hst1 hm => ?_))
    have hS1 := hm.heap S _ hSw hS
    have hY1 := keep _ _ _ _ _ hY (hm.mono up)
    show wpAny _ A.in1 (tryCatch (holding [v] (call (.ref q) [v])) _ >>= _) _ _ _
    refine wpAny_bind (wpAny_tryCatch (wpAny_holding (wpAny_mono (turn j vb kb v s' _ hlt hP hY1 hst1 hS1) (fun kx s2 ⟨hst2, hS2, d, hcmp, ht, hf⟩ => ?_) fun _ _ z => z.elim)))
    show wpAny _ A.in1 (tryCatch (holding [v, kx] (richCompare .Lt kx kb >>= _)) _ >>= _) _ _ _
    refine wpAny_bind (wpAny_tryCatch (wpAny_holding (wpAny_bind (hcmp _ _ ?_))))
    refine wpAny_bind (wpAny_holding (wpAny_truthy_bool ?_))
    refine wpAny_bind (wpAny_letGo (wpAny_pure ?_))
    cases d with
    | true =>
      simp only [if_true]
      refine wpAny_bind (wpAny_updateSeq hS2 rfl (wpAny_bind (wpAny_letGo ?_)))
      rw [nm]
      have hm2 : Moved (S :: wr) G s2 { s2 with heap := s2.heap.update S (Obj.mapSeq fun _ => #[v, kx]), toks := s2.toks } := (Moved.refl W.grefl).then_heap (tk := s2.toks) (Nat.le_refl _) fun b o hb e => (Heap.get?_update_other _ _ (nS hb)).trans e
      refine wpAny_pure ⟨plainId_quiet PySem.F.plain_min_loop _, ih (j + 1) _ v kx _ (by omega) hlt (keep _ _ _ _ _ (ht rfl) hm2) (W.frame _ s2 _ s2.toks hst2 (Nat.le_refl _) fun b hbf o e => ?_) (Heap.get?_update_self _ hS2 rfl) hR⟩
      exact (Heap.get?_update_other _ _ (fun h : S = b => hSf (by rw [h]; exact hbf))).trans e
    | false =>
      simp only [Bool.false_eq_true, if_false]
      refine wpAny_bind (wpAny_letGo ?_)
      rw [nm]
      exact wpAny_pure ⟨plainId_quiet PySem.F.plain_min_loop _, ih (j + 1) _ vb kb c (by omega) hlt (hf rfl) hst2 hS2 hR⟩
theorem call_minK {x : Value} {Q : Value → Shared → Prop} {E : Value → Shared → Prop} {s : Shared}
    (h : wpAny (model prog w) A.in1 (pyIter x) (fun it s₂ => ∃ (I : Addr) (fp wr : List Addr) (G : Array GenState → Array GenState → Prop) (n : Nat) (P : Nat → Value → Prop) (St : Nat → Shared → Prop) (Y : Nat → Value → Value → Shared → Prop), it = .ref I ∧ WalksS prog w A.in1 I fp wr G n P St ∧ St 0 s₂ ∧ (∀ b ∈ fp, b < s₂.heap.objs.size) ∧ 0 < n ∧
      (∀ j vb kb s s', Y j vb kb s → Moved (s₂.heap.objs.size :: wr) G s s' → Y j vb kb s') ∧
      (∀ v s, P 0 v → Moved (s₂.heap.objs.size :: wr) G s₂ s → St 1 s → (∃ o, s.heap.get? s₂.heap.objs.size = some o) → wpAny (model prog w) A.in1 (call (.ref q) [v]) (fun kx s2 => St 1 s2 ∧ (∀ o, s.heap.get? s₂.heap.objs.size = some o → s2.heap.get? s₂.heap.objs.size = some o) ∧ Y 0 v kx s2) (fun _ _ => False) s) ∧
      (∀ j vb kb v s o, j + 1 < n → P (j + 1) v → Y j vb kb s → St (j + 2) s → s.heap.get? s₂.heap.objs.size = some o → wpAny (model prog w) A.in1 (call (.ref q) [v]) (fun kx s2 => St (j + 2) s2 ∧ s2.heap.get? s₂.heap.objs.size = some o ∧
        ∃ c : Bool, (∀ (Q E : Value → Shared → Prop), Q (.bool c) s2 → wpAny (model prog w) A.in1 (richCompare .Lt kx kb) Q E s2) ∧ (c = true → Y (j + 1) v kx s2) ∧ (c = false → Y (j + 1) vb kb s2)) (fun _ _ => False) s) ∧
      ∀ vb kb s', Y (n - 1) vb kb s' → Q vb s') E s) :
    wpAny (model prog w) A (call (.builtin "min") [x] [(Str.ofString "key", .ref q)]) Q E s := by
  have nm : (toString "min" ++ toString ".loop" : String) = "min.loop" := by decide
  refine PyProof.Rows.kmk_tree PySem.F.kind_min PySem.F.plain_min PySem.F.entry_min (PyProof.Rows.kmk_min_key _ _) ?_
  show wpAny _ A.in1 (Builtin.Builtins.bindParams "min" ["key", "default"] 0 ⟨[], [(Str.ofString "key", .ref q)]⟩ >>= _) _ _ s
  refine wpAny_bind (wpAny_of_eq (show Builtin.Builtins.bindParams "min" ["key", "default"] 0 ⟨[], [(Str.ofString "key", .ref q)]⟩ = pure [some (.ref q), none] from rfl) ?_)
  refine wpAny_bind (wpAny_pure ?_)
  refine wpAny_bind (wpAny_mono h (fun it s₂ h₂ => ?_) fun _ _ e => e)
  obtain ⟨I, fp, wr, G, n, P, St, Y, rfl, W, hst, hfp, hn, keep, first, turn, hQ⟩ := h₂
  refine wpAny_bind (wpAny_newObj_type ?_)
  have hSf : s₂.heap.objs.size ∉ fp := fun hm => Nat.lt_irrefl _ (hfp _ hm)
  have hSw : s₂.heap.objs.size ∉ wr := fun h => hSf (W.sub _ h)
  have up : ∀ b ∈ wr, b ∈ s₂.heap.objs.size :: wr := fun b hb => List.mem_cons_of_mem _ hb
  have nS : ∀ {b : Addr}, b ∉ s₂.heap.objs.size :: wr → s₂.heap.objs.size ≠ b := fun hb h => hb (by rw [h]; exact List.mem_cons_self)
  rw [nm]
  have hm0 : Moved (s₂.heap.objs.size :: wr) G s₂ { s₂ with heap := s₂.heap.push { cls := .type "list", data := .seq #[] 0 }, toks := s₂.toks } := (Moved.refl W.grefl).then_heap (tk := s₂.toks) (Nat.le_refl _) fun b o _ e => Heap.get?_push_of_some _ e
  have hst0 := W.frame 0 s₂ (s₂.heap.push { cls := .type "list", data := .seq #[] 0 }) s₂.toks hst (Nat.le_refl _) fun b _ o e => Heap.get?_push_of_some _ e
  refine wpAny_pure ⟨plainId_quiet PySem.F.plain_min_loop _, ?_⟩
  have hS : (s₂.heap.push { cls := .type "list", data := .seq #[] 0 }).get? s₂.heap.objs.size = some { cls := .type "list", dict := none, data := .seq #[] 0, slots := #[] } := Heap.get?_push_size _ rfl
  refine codeAny_builtin PySem.F.entry_min_loop ?_
  rw [Around.under_plainId PySem.F.plain_min_loop _]
  show wpAny _ A.in1 (seqItems? (.ref s₂.heap.objs.size) >>= _) _ _ _
  refine wpAny_bind (wpAny_seqItems hS rfl ?_)
  show wpAny _ A.in1 (tryCatch (pyNext (.ref I)) _ >>= _) _ _ _
  refine wpAny_bind (wpAny_tryCatch (W.item 0 _ _ _ hn hst0 fun v s' hP hst1 hm => ?_))
  have hS1 := hm.heap _ _ hSw hS
  show wpAny _ A.in1 (tryCatch (holding [v] (call (.ref q) [v])) _ >>= _) _ _ _
  refine wpAny_bind (wpAny_tryCatch (wpAny_holding (wpAny_mono (first v s' hP (Moved.trans W.gtrans hm0 (hm.mono up)) hst1 ⟨_, hS1⟩) (fun kx s2 ⟨hst2, kS, hY⟩ => ?_) fun _ _ z => z.elim)))
  have hS2 := kS _ hS1
  show wpAny _ A.in1 (updateSeq s₂.heap.objs.size (fun _ => #[v, kx]) >>= _) _ _ _
  refine wpAny_bind (wpAny_updateSeq hS2 rfl ?_)
  rw [nm]
  have hm2 : Moved (s₂.heap.objs.size :: wr) G s2 { s2 with heap := s2.heap.update s₂.heap.objs.size (Obj.mapSeq fun _ => #[v, kx]), toks := s2.toks } := (Moved.refl W.grefl).then_heap (tk := s2.toks) (Nat.le_refl _) fun b o hb e => (Heap.get?_update_other _ _ (nS hb)).trans e
  refine wpAny_pure ⟨plainId_quiet PySem.F.plain_min_loop _, minK_loop W s₂.heap.objs.size hSf Y keep turn _ _ 0 _ v kx _ rfl hn (keep _ _ _ _ _ hY hm2) (W.frame _ s2 _ s2.toks hst2 (Nat.le_refl _) fun b hbf o e => ?_) (Heap.get?_update_self _ hS2 rfl) hQ⟩
  exact (Heap.get?_update_other _ _ (fun h : s₂.heap.objs.size = b => hSf (by rw [h]; exact hbf))).trans e

theorem maxK_loop (W : WalksS prog w A.in1 I fp wr G n P St) (S : Addr) (hSf : S ∉ fp) (Y : Nat → Value → Value → Shared → Prop) (keep : ∀ j vb kb s s', Y j vb kb s → Moved (S :: wr) G s s' → Y j vb kb s')
    (turn : ∀ j vb kb v s o, j + 1 < n → P (j + 1) v → Y j vb kb s → St (j + 2) s → s.heap.get? S = some o → wpAny (model prog w) A.in1 (call (.ref q) [v]) (fun kx s2 => St (j + 2) s2 ∧ s2.heap.get? S = some o ∧
      ∃ c : Bool, (∀ (Q E : Value → Shared → Prop), Q (.bool c) s2 → wpAny (model prog w) A.in1 (richCompare .Gt kx kb) Q E s2) ∧ (c = true → Y (j + 1) v kx s2) ∧ (c = false → Y (j + 1) vb kb s2)) (fun _ _ => False) s) (kw : List (Str × Value)) :
    ∀ (k j : Nat) (s : Shared) (vb kb : Value) (c : Nat), n - (j + 1) = k → j + 1 ≤ n → Y j vb kb s → St (j + 1) s →
    s.heap.get? S = some { cls := .type "list", dict := none, data := .seq #[vb, kb] c, slots := #[] } →
    (∀ vb kb s', Y (n - 1) vb kb s' → R (.ok (.ret vb)) s') → codeAny (model prog w) A (.builtin "max.loop" ⟨[.ref I, .ref q, .ref S], kw⟩) R s := by
  have hSw : S ∉ wr := fun h => hSf (W.sub _ h)
  have up : ∀ b ∈ wr, b ∈ S :: wr := fun b hb => List.mem_cons_of_mem _ hb
  have nm : (toString "max" ++ toString ".loop" : String) = "max.loop" := by decide
  have nS : ∀ {b : Addr}, b ∉ S :: wr → S ≠ b := fun hb h => hb (by rw [h]; exact List.mem_cons_self)
  intro k
  induction k with
  | zero =>
    intro j s vb kb c hk hj hY hst hS hR
    have hin : j + 1 = n := by omega
    refine codeAny_builtin PySem.F.entry_max_loop ?_
    rw [Around.under_plainId PySem.F.plain_max_loop _]
    show wpAny _ A.in1 (seqItems? (.ref S) >>= _) _ _ s
    refine wpAny_bind (wpAny_seqItems hS rfl ?_)
    show wpAny _ A.in1 (tryCatch (pyNext (.ref I)) _ >>= _) _ _ s
    refine wpAny_bind (wpAny_tryCatch (W.done s _ _ (hin ▸ hst) fun s' hm => ?_))
    have hS1 := hm.heap S _ hSw hS
    show wpAny _ A.in1 (updateSeq S (fun _ => #[]) >>= _) _ _ _
    refine wpAny_bind (wpAny_updateSeq hS1 rfl (wpAny_bind (wpAny_letGo (wpAny_pure ?_))))
    obtain rfl : n - 1 = j := by omega
    exact hR vb kb _ (keep _ _ _ _ _ hY ((hm.mono up).then_heap (tk := s'.toks) (Nat.le_refl _) fun b o hb e => (Heap.get?_update_other _ _ (nS hb)).trans e))
  | succ k ih =>
    intro j s vb kb c hk hj hY hst hS hR
    have hlt : j + 1 < n := by omega
    refine codeAny_builtin PySem.F.entry_max_loop ?_
    rw [Around.under_plainId PySem.F.plain_max_loop _]
    show wpAny _ A.in1 (seqItems? (.ref S) >>= _) _ _ s
    refine wpAny_bind (wpAny_seqItems hS rfl ?_)
    show wpAny _ A.in1 (tryCatch (pyNext (.ref I)) _ >>= _) _ _ s
    refine wpAny_bind (wpAny_tryCatch (W.item (j + 1) s _ _ hlt hst fun v s' hP hst1 hm => ?_))
    have hS1 := hm.heap S _ hSw hS
    have hY1 := keep _ _ _ _ _ hY (hm.mono up)
    show wpAny _ A.in1 (tryCatch (holding [v] (call (.ref q) [v])) _ >>= _) _ _ _
    refine wpAny_bind (wpAny_tryCatch (wpAny_holding (wpAny_mono (turn j vb kb v s' _ hlt hP hY1 hst1 hS1) (fun kx s2 ⟨hst2, hS2, d, hcmp, ht, hf⟩ => ?_) fun _ _ z => z.elim)))
    show wpAny _ A.in1 (tryCatch (holding [v, kx] (richCompare .Gt kx kb >>= _)) _ >>= _) _ _ _
    refine wpAny_bind (wpAny_tryCatch (wpAny_holding (wpAny_bind (hcmp _ _ ?_))))
    refine wpAny_bind (wpAny_holding (wpAny_truthy_bool ?_))
    refine wpAny_bind (wpAny_letGo (wpAny_pure ?_))
    cases d with
    | true =>
      simp only [if_true]
      refine wpAny_bind (wpAny_updateSeq hS2 rfl (wpAny_bind (wpAny_letGo ?_)))
      rw [nm]
      have hm2 : Moved (S :: wr) G s2 { s2 with heap := s2.heap.update S (Obj.mapSeq fun _ => #[v, kx]), toks := s2.toks } := (Moved.refl W.grefl).then_heap (tk := s2.toks) (Nat.le_refl _) fun b o hb e => (Heap.get?_update_other _ _ (nS hb)).trans e
      refine wpAny_pure ⟨plainId_quiet PySem.F.plain_max_loop _, ih (j + 1) _ v kx _ (by omega) hlt (keep _ _ _ _ _ (ht rfl) hm2) (W.frame _ s2 _ s2.toks hst2 (Nat.le_refl _) fun b hbf o e => ?_) (Heap.get?_update_self _ hS2 rfl) hR⟩
      exact (Heap.get?_update_other _ _ (fun h : S = b => hSf (by rw [h]; exact hbf))).trans e
    | false =>
      simp only [Bool.false_eq_true, if_false]
      refine wpAny_bind (wpAny_letGo ?_)
      rw [nm]
      exact wpAny_pure ⟨plainId_quiet PySem.F.plain_max_loop _, ih (j + 1) _ vb kb c (by omega) hlt (hf rfl) hst2 hS2 hR⟩
theorem call_maxK {x : Value} {Q : Value → Shared → Prop} {E : Value → Shared → Prop} {s : Shared}
    (h : wpAny (model prog w) A.in1 (pyIter x) (fun it s₂ => ∃ (I : Addr) (fp wr : List Addr) (G : Array GenState → Array GenState → Prop) (n : Nat) (P : Nat → Value → Prop) (St : Nat → Shared → Prop) (Y : Nat → Value → Value → Shared → Prop), it = .ref I ∧ WalksS prog w A.in1 I fp wr G n P St ∧ St 0 s₂ ∧ (∀ b ∈ fp, b < s₂.heap.objs.size) ∧ 0 < n ∧
      (∀ j vb kb s s', Y j vb kb s → Moved (s₂.heap.objs.size :: wr) G s s' → Y j vb kb s') ∧
      (∀ v s, P 0 v → Moved (s₂.heap.objs.size :: wr) G s₂ s → St 1 s → (∃ o, s.heap.get? s₂.heap.objs.size = some o) → wpAny (model prog w) A.in1 (call (.ref q) [v]) (fun kx s2 => St 1 s2 ∧ (∀ o, s.heap.get? s₂.heap.objs.size = some o → s2.heap.get? s₂.heap.objs.size = some o) ∧ Y 0 v kx s2) (fun _ _ => False) s) ∧
      (∀ j vb kb v s o, j + 1 < n → P (j + 1) v → Y j vb kb s → St (j + 2) s → s.heap.get? s₂.heap.objs.size = some o → wpAny (model prog w) A.in1 (call (.ref q) [v]) (fun kx s2 => St (j + 2) s2 ∧ s2.heap.get? s₂.heap.objs.size = some o ∧
        ∃ c : Bool, (∀ (Q E : Value → Shared → Prop), Q (.bool c) s2 → wpAny (model prog w) A.in1 (richCompare .Gt kx kb) Q E s2) ∧ (c = true → Y (j + 1) v kx s2) ∧ (c = false → Y (j + 1) vb kb s2)) (fun _ _ => False) s) ∧
      ∀ vb kb s', Y (n - 1) vb kb s' → Q vb s') E s) :
    wpAny (model prog w) A (call (.builtin "max") [x] [(Str.ofString "key", .ref q)]) Q E s := by
  have nm : (toString "max" ++ toString ".loop" : String) = "max.loop" := by decide
  refine PyProof.Rows.kmk_tree PySem.F.kind_max PySem.F.plain_max PySem.F.entry_max (PyProof.Rows.kmk_max_key _ _) ?_
  show wpAny _ A.in1 (Builtin.Builtins.bindParams "max" ["key", "default"] 0 ⟨[], [(Str.ofString "key", .ref q)]⟩ >>= _) _ _ s
  refine wpAny_bind (wpAny_of_eq (show Builtin.Builtins.bindParams "max" ["key", "default"] 0 ⟨[], [(Str.ofString "key", .ref q)]⟩ = pure [some (.ref q), none] from rfl) ?_)
  refine wpAny_bind (wpAny_pure ?_)
  refine wpAny_bind (wpAny_mono h (fun it s₂ h₂ => ?_) fun _ _ e => e)
  obtain ⟨I, fp, wr, G, n, P, St, Y, rfl, W, hst, hfp, hn, keep, first, turn, hQ⟩ := h₂
  refine wpAny_bind (wpAny_newObj_type ?_)
  have hSf : s₂.heap.objs.size ∉ fp := fun hm => Nat.lt_irrefl _ (hfp _ hm)
  have hSw : s₂.heap.objs.size ∉ wr := fun h => hSf (W.sub _ h)
  have up : ∀ b ∈ wr, b ∈ s₂.heap.objs.size :: wr := fun b hb => List.mem_cons_of_mem _ hb
  have nS : ∀ {b : Addr}, b ∉ s₂.heap.objs.size :: wr → s₂.heap.objs.size ≠ b := fun hb h => hb (by rw [h]; exact List.mem_cons_self)
  rw [nm]
  have hm0 : Moved (s₂.heap.objs.size :: wr) G s₂ { s₂ with heap := s₂.heap.push { cls := .type "list", data := .seq #[] 0 }, toks := s₂.toks } := (Moved.refl W.grefl).then_heap (tk := s₂.toks) (Nat.le_refl _) fun b o _ e => Heap.get?_push_of_some _ e
  have hst0 := W.frame 0 s₂ (s₂.heap.push { cls := .type "list", data := .seq #[] 0 }) s₂.toks hst (Nat.le_refl _) fun b _ o e => Heap.get?_push_of_some _ e
  refine wpAny_pure ⟨plainId_quiet PySem.F.plain_max_loop _, ?_⟩
  have hS : (s₂.heap.push { cls := .type "list", data := .seq #[] 0 }).get? s₂.heap.objs.size = some { cls := .type "list", dict := none, data := .seq #[] 0, slots := #[] } := Heap.get?_push_size _ rfl
  refine codeAny_builtin PySem.F.entry_max_loop ?_
  rw [Around.under_plainId PySem.F.plain_max_loop _]
  show wpAny _ A.in1 (seqItems? (.ref s₂.heap.objs.size) >>= _) _ _ _
  refine wpAny_bind (wpAny_seqItems hS rfl ?_)
  show wpAny _ A.in1 (tryCatch (pyNext (.ref I)) _ >>= _) _ _ _
  refine wpAny_bind (wpAny_tryCatch (W.item 0 _ _ _ hn hst0 fun v s' hP hst1 hm => ?_))
  have hS1 := hm.heap _ _ hSw hS
  show wpAny _ A.in1 (tryCatch (holding [v] (call (.ref q) [v])) _ >>= _) _ _ _
  refine wpAny_bind (wpAny_tryCatch (wpAny_holding (wpAny_mono (first v s' hP (Moved.trans W.gtrans hm0 (hm.mono up)) hst1 ⟨_, hS1⟩) (fun kx s2 ⟨hst2, kS, hY⟩ => ?_) fun _ _ z => z.elim)))
  have hS2 := kS _ hS1
  show wpAny _ A.in1 (updateSeq s₂.heap.objs.size (fun _ => #[v, kx]) >>= _) _ _ _
  refine wpAny_bind (wpAny_updateSeq hS2 rfl ?_)
  rw [nm]
  have hm2 : Moved (s₂.heap.objs.size :: wr) G s2 { s2 with heap := s2.heap.update s₂.heap.objs.size (Obj.mapSeq fun _ => #[v, kx]), toks := s2.toks } := (Moved.refl W.grefl).then_heap (tk := s2.toks) (Nat.le_refl _) fun b o hb e => (Heap.get?_update_other _ _ (nS hb)).trans e
  refine wpAny_pure ⟨plainId_quiet PySem.F.plain_max_loop _, maxK_loop W s₂.heap.objs.size hSf Y keep turn _ _ 0 _ v kx _ rfl hn (keep _ _ _ _ _ hY hm2) (W.frame _ s2 _ s2.toks hst2 (Nat.le_refl _) fun b hbf o e => ?_) (Heap.get?_update_self _ hS2 rfl) hQ⟩
  exact (Heap.get?_update_other _ _ (fun h : s₂.heap.objs.size = b => hSf (by rw [h]; exact hbf))).trans e
end
end SM

set_option autoImplicit false
set_option Elab.async false
set_option linter.all false
set_option maxRecDepth 100000
set_option maxHeartbeats 4000000
namespace SM
open PySem PySem.Spec PyProof.Rows L2
open PySem.W (EachIs AllAlike)
/-! ### a list that is walked, whatever the tokens of its items -/
theorem walks_vals {prog : Program} {w : World} {A : Around} (hh : A.handled = none) (I l : Addr) (hne : l ≠ I) (us : List V) :
    WalksS prog w A I [I, l] [I] (fun a b => b = a) us.length (fun i v => ∃ u, us[i]? = some u ∧ RelV u v) (fun i s => s.heap.IsListIter I l i ∧ ∃ its : List Value, Vals us its ∧ s.heap.IsList l its.toArray) where
  sub := fun b hb => by simp at hb; simp [hb]
  grefl := fun _ => rfl
  gtrans := fun a b c h1 h2 => h2.trans h1
  frame := fun i s h' tk ⟨h1, its, h2, h3⟩ _ hk => ⟨h1.at fun o e => hk I (by simp) o e, its, h2, h3.at fun o e => hk l (by simp) o e⟩
  item := fun i s Q E hi ⟨h1, its, h2, h3⟩ h => by
    have hs : its.toArray.size = us.length := by rw [List.size_toArray, h2.length]
    refine (Walks.list (prog := prog) (w := w) (A := A) hh I l hne its.toArray).toS.item i s Q E (by rw [hs]; exact hi) ⟨h1, h3⟩ fun v s' hv st m => h v s' ?_ ⟨st.1, its, h2, st.2⟩ m
    have hv : its.toArray[i]? = some v := hv
    obtain ⟨u', hu', r'⟩ := h2.get (List.getElem?_eq_getElem hi)
    rw [List.getElem?_toArray, hu'] at hv
    cases hv
    exact ⟨_, List.getElem?_eq_getElem hi, r'⟩
  done := fun s Q E ⟨h1, its, h2, h3⟩ h => by
    have hs : its.toArray.size = us.length := by rw [List.size_toArray, h2.length]
    exact (Walks.list (prog := prog) (w := w) (A := A) hh I l hne its.toArray).toS.done s Q E (by rw [hs]; exact ⟨h1, h3⟩) h
  self := fun i s Q E ⟨h1, its, h2, h3⟩ h => (Walks.list (prog := prog) (w := w) (A := A) hh I l hne its.toArray).toS.self i s Q E ⟨h1, h3⟩ h
section
variable {S : Stat} {γ : Gm} {a : Expr} {pos p lpos kpos : Pos} {α β : Type} {encA : α → PyData} {encK : β → PyData} {n i : Nat} {xs : List α} {g : α → Option β} {params : Arguments} {body : Expr} {scope : Scope} {x : Str}
theorem OrdE.nn [LtE β] (hO : OrdE encK n) (x : β) : encK x ≠ .none := by
  rcases hO.kind with k | k
  · obtain ⟨xs, e⟩ := k x
    rw [e]; exact fun z => by cases z
  · exact (k x).1

/-- min(xs, key=g) -/
def minKM {α β : Type} [LtE β] (g : α → Option β) (xs : List α) : Option α := (keyM g xs).bind fun ps => match ps with
  | [] => none
  | p :: r => some (r.foldl (fun b y => if LtE.lt y.2 b.2 = true then y else b) p).1
theorem e_minK [iβ : LtE β] {c P : Addr} {y : α} (hO : OrdE encK n) (hn : n ≤ 60) (hk : 3 ≤ S.k) (hc : S.code = .ref c) (hT : (P, S.qual ++ "<lambda>") ∈ S.tabs.T) (TB : LamX.TabB S.base S.mg c P) (hg : IsGl S "min") (hm : S.mg "min" = none)
    (ha : QJ S γ a .l (xs.map encA)) (hs : PlainE a) (hb : ∀ code, ∀ y ∈ xs, EO (S.lam scope code) ((wipeG γ [i]).set i (.sh (encA y))) body encK (g y)) (hr : minKM g xs = some y) (hN : S.N.Nodup) (ok : lam1B S.N S.sc scope [(x, i)] = true) (hx : scope.names.lookup x = some .local)
    (hdef : ∀ X : Cx, defaultsOf params X.env = ([], [])) (hbd : LamBind params body scope x) :
    EJ S γ (.Call (.Name "min" p) [a] [⟨some "key", .Lambda params body scope lpos, kpos⟩] pos) (encA y) := fun σ H F at_ Q q X hX pins s I => by
  obtain ⟨p0, r, hps, hy⟩ : ∃ p0 r, keyM g xs = some (p0 :: r) ∧ y = (r.foldl (fun b y => if LtE.lt y.2 b.2 = true then y else b) p0).1 := by
    unfold minKM at hr
    obtain ⟨ps, h1, h2⟩ := Option.bind_eq_some_iff.mp hr
    cases ps with
    | nil => cases h2
    | cons p0 r => exact ⟨p0, r, h1, (Option.some.inj h2).symm⟩
  have hfst := keyM_fst hps
  have hpl : r.length + 1 = xs.length := by rw [← hfst, List.length_map]; rfl
  refine wpAny_Call_Name_kw (ld_blt I (hX.gl hg) (hX.mgn hm) boot_min ?_ (by decide) (by decide))
  have ra := (pa_cons (pe_w hX) pa_nil (hs [] X.env)).run pos pins s σ H (fun vs H1 => ∃ v F1, vs = [v] ∧ At S γ σ H1 F1 ∧ Ex2 S.tabs H F H1 F1 ∧ ∃ l us, v = .ref l ∧ SqL S.K H1 l us ∧ DpAll S.K F1 us (xs.map encA)) I (ha σ H F at_ _ fun v H1 F1 a1 x1 p1 => ⟨v, F1, rfl, a1, x1, p1⟩)
  refine callWith_kw (thn ra fun us0 s1 ⟨vs, H1, I1, r1, v, F1, e1, a1, x1, l, us, e2, hc1, hd1⟩ => ?_) (congrArg (backTo pos) (hs [] X.env)) (by rw [hs [] X.env]; rfl) rfl rfl
  subst e1; subst e2
  obtain rfl := Vals.ref1 r1
  show wpAny _ _ (evalAll ((do let v ← eval (.Lambda params body scope lpos) X.env; standAt pos; pure v) :: [])) _ _ s1
  have hq : X.env.qual ++ "<lambda>" = S.qual ++ "<lambda>" := by rw [hX.qual]
  have okX : LamOk1 X.N X.env.scope scope [(x, i)] := by rw [hX.N, hX.sc]; exact lamOk1_by ok
  have hfree : ∀ y ∈ scope.names, y.2 = .free → ∃ c, X.env.cells.lookup y.1 = some c := fun y hy e => by
    rcases okX.free y hy e with k | k
    · exact I1.ok.has _ (.inl k)
    · exact I1.ok.has _ (.inr k)
  refine wpAny_evalAll_cons (wpAny_bind (lam_make3 (t := S.tabs) I1 (by rw [hX.base, hX.mg]; exact TB) (by rw [hX.code]; exact hc) hq hT (a1.tabs.2.1 _ hT) (hdef X) hfree fun f c' pm ctv H2 s2 I2 x2 hf hfn hfr hco => wpAny_bind (wpAny_standAt (wpAny_pure ?_))))
  refine wpAny_evalAll_nil ?_
  rw [← hq] at hf hco
  show wpAny _ _ (call (.builtin "min") [.ref l] [(Str.ofString "key", .ref f)]) _ _ s2
  have x2' : Ex2 S.tabs H1 F1 H2 F1 := ⟨x2, Le.refl F1, fun a o e n => by rw [n] at e; cases e⟩
  have a2 : At S γ σ H2 F1 := a1.ex x2' ⟨a1.hf.ext x2, a1.hf.ntb⟩
  have hh : X.A.handled = none := I2.ok.hd hX.calm
  have hc2 : SqL S.K H2 l us := SqX.ext (k := .l) x2 hc1
  obtain ⟨its, rv, hl, hz⟩ := I2.list (show SqL X.K H2 l us by rw [hX.K]; exact hc2)
  have hlx : us.length = r.length + 1 := by rw [hd1.zlen, List.length_map, hpl]
  have hrA : Room (S.k - 2) X.A.in1 := by
    have h := hX.room
    obtain ⟨m, hm⟩ : ∃ m, S.k = m + 1 := ⟨S.k - 1, by omega⟩
    rw [hm] at h ⊢
    exact (Room.in1 h).mono (by omega)
  have hlt : l < s2.heap.objs.size := by obtain ⟨_, e, _⟩ := hl.isList; exact Heap.lt_size e
  have hsz : (s2.heap.push { cls := .type "list_iterator", data := .fields #[.ref l, .int 0 0] }).objs.size = s2.heap.objs.size + 1 := size_push' _ _
  have hI0 : FpOk X pins H2 s2.heap.objs.size := I2.fpOk (Nat.le_refl _) I2.fresh
  have hS0 : FpOk X pins H2 (s2.heap.objs.size + 1) := I2.fpOk (Nat.le_succ _) (I2.hok.fresh (Nat.le_succ _))
  have fI : s2.heap.objs.size ∉ frs X.stack := off_frs I2 _ (Nat.le_refl _)
  have fS : s2.heap.objs.size + 1 ∉ frs X.stack := off_frs I2 _ (Nat.le_succ _)
  have hfl : f < s2.heap.objs.size := Heap.lt_size hf
  have key : ∀ (j : Nat) (u : V) (v : Value), us[j]? = some u → RelV u v → ∃ pj : α × β, (p0 :: r)[j]? = some pj ∧ Dp S.K F1 u (encA pj.1) ∧ ∀ code, EO (S.lam scope code) ((wipeG γ [i]).set i (.sh (encA pj.1))) body encK (some pj.2) := fun j u v hu ru => by
    obtain ⟨d, hd, dv⟩ := hd1.zget' hu
    have hjx : j < xs.length := by
      have := (List.getElem?_eq_some_iff.mp hu).1
      omega
    rw [List.getElem?_map, List.getElem?_eq_getElem hjx] at hd
    obtain rfl : encA xs[j] = d := Option.some.inj hd
    obtain ⟨k, hpk, hgk⟩ := keyM_get hps j _ (List.getElem?_eq_getElem hjx)
    exact ⟨_, hpk, dv, fun code => by rw [← hgk]; exact hb _ _ (List.getElem_mem hjx)⟩
  have reL : ∀ {s' : Shared} {H3 : Hp}, Inv X pins σ H3 s' → SqL S.K H3 l us → ∃ its : List Value, Vals us its ∧ s'.heap.IsList l its.toArray := fun I' hq => by
    obtain ⟨its, rv, hl, _⟩ := I'.list (by rw [hX.K]; exact hq)
    exact ⟨its, rv, hl.isList⟩
  refine call_minK (wpAny_pyIter_list hl.isList ?_)
  refine ⟨s2.heap.objs.size, _, _, _, us.length, _, _, fun j vb kb s' => ∃ H3 F3 ub ukb pj, Inv X pins σ H3 s' ∧ At S γ σ H3 F3 ∧ Ex2 S.tabs H F H3 F3 ∧ Ext S.tabs H2 H3 ∧ Le F1 F3 ∧ RelV ub vb ∧ Dp S.K F3 ub (encA pj.1) ∧ RelV ukb kb ∧ Dp S.K F3 ukb (encK pj.2) ∧ pj = (r.take j).foldl (fun b y => if LtE.lt y.2 b.2 = true then y else b) p0 ∧
      FpOk X pins H3 s2.heap.objs.size ∧ FpOk X pins H3 (s2.heap.objs.size + 1) ∧ s'.heap.get? f = some (PySem.W.kla_obj "<lambda>" (X.env.qual ++ "<lambda>") params body scope (cloFrom X.env.cells scope.names []) pm c' ctv) ∧ H3 f = none ∧ H3 c' = some (LamX.CodeO c' (X.env.qual ++ "<lambda>")),
    rfl, walks_vals (show X.A.in1.handled = none from hh) s2.heap.objs.size l (Nat.ne_of_lt hlt) us, ⟨⟨_, Heap.get?_push_size _ rfl, rfl, rfl⟩, its, rv, hl.isList.push _⟩, fun b hb => ?_, by omega, ?keep, ?first, ?turn, ?fin⟩
  · show b < (s2.heap.push _).objs.size
    rw [hsz]
    rcases List.mem_cons.mp hb with z | z
    · rw [z]; exact Nat.lt_succ_self _
    · rw [List.mem_singleton.mp z]; exact Nat.lt_succ_of_lt hlt
  case keep =>
    rintro j vb kb s3 s4 ⟨H3, F3, ub, ukb, pj, I3, a3, x3, y3, l3, rb, db, rk, dk, hpj, fI3, fS3, hf3, hfn3, hc3⟩ mv
    have hch : ∀ b, b ∉ [s2.heap.objs.size, s2.heap.objs.size + 1] → b ∉ (s2.heap.push { cls := .type "list_iterator", data := .fields #[.ref l, .int 0 0] }).objs.size :: [s2.heap.objs.size] := fun b hb z => hb (by
      rw [hsz] at z
      simp only [List.mem_cons, List.not_mem_nil, or_false] at z ⊢
      exact z.symm)
    have I4 := I3.turnedL (h' := s4.heap) (t' := s4.toks) (ch := [s2.heap.objs.size, s2.heap.objs.size + 1]) (fun b o hb e => mv.heap b o (hch b hb) e) (fun b hb => by
      rcases List.mem_cons.mp hb with z | z
      · rw [z]; exact fI3
      · rw [List.mem_singleton.mp z]; exact fS3)
    have es : s4 = { s3 with heap := s4.heap, toks := s4.toks } := by
      obtain ⟨h4, g4, d4, t4, o4⟩ := s4
      have z1 : g4 = s3.gens := mv.gens
      have z2 : d4 = s3.drawn := mv.drawn
      have z3 : o4 = s3.os := mv.os
      subst z1 z2 z3
      rfl
    rw [es]
    exact ⟨H3, F3, ub, ukb, pj, I4, a3, x3, y3, l3, rb, db, rk, dk, hpj, fI3, fS3, mv.heap f _ (hch f (by
      simp only [List.mem_cons, List.not_mem_nil, or_false, not_or]
      exact ⟨Nat.ne_of_lt hfl, Nat.ne_of_lt (Nat.lt_succ_of_lt hfl)⟩)) hf3, hfn3, hc3⟩
  case first =>
    rintro v s3 ⟨u, hu, ru⟩ mv ⟨st1, its1, rv1, hl1⟩ ⟨o, ho⟩
    rw [hsz] at ho
    have hch : ∀ b, b ∉ [s2.heap.objs.size, s2.heap.objs.size + 1] → b ∉ (s2.heap.push { cls := .type "list_iterator", data := .fields #[.ref l, .int 0 0] }).objs.size :: [s2.heap.objs.size] := fun b hb z => hb (by
      rw [hsz] at z
      simp only [List.mem_cons, List.not_mem_nil, or_false] at z ⊢
      exact z.symm)
    have I3a := I2.turnedL (h' := s3.heap) (t' := s3.toks) (ch := [s2.heap.objs.size, s2.heap.objs.size + 1]) (fun b o hb e => mv.heap b o (hch b hb) (Heap.get?_push_of_some _ e)) (fun b hb => by
      rcases List.mem_cons.mp hb with z | z
      · rw [z]; exact hI0
      · rw [List.mem_singleton.mp z]; exact hS0)
    have es : s3 = { s2 with heap := s3.heap, toks := s3.toks } := by
      obtain ⟨h4, g4, d4, t4, o4⟩ := s3
      have z1 : g4 = s2.gens := mv.gens
      have z2 : d4 = s2.drawn := mv.drawn
      have z3 : o4 = s2.os := mv.os
      subst z1 z2 z3
      rfl
    have I3 : Inv X pins σ H2 s3 := by rw [es]; exact I3a
    have hf3 := mv.heap f _ (hch f (by
      simp only [List.mem_cons, List.not_mem_nil, or_false, not_or]
      exact ⟨Nat.ne_of_lt hfl, Nat.ne_of_lt (Nat.lt_succ_of_lt hfl)⟩)) (Heap.get?_push_of_some _ hf)
    obtain ⟨pj, hp, dv, hbj⟩ := key 0 u v hu ru
    cases hp
    refine thn (lam_turn (encK := encK) (y := p0.1) (k := p0.2) hX I3 a2 hk hrA (show X.A.in1.frames = some X.stack from I2.ok.frames) hN ok hx hbd hf3 hco ru dv (hbj _)) fun kx s5 ⟨u', H5, F5, I5, a5, x5, un, rw', d5⟩ => ?_
    have free : ∀ b o, s3.heap.get? b = some o → H2 b = none → H5 b = none := fun b o e n => un.free b o e n (by simp)
    obtain ⟨oI, hoI, hoI2, hoI3⟩ := id st1
    refine ⟨⟨⟨oI, un.keep _ _ hoI hI0.1 fI (by simp), hoI2, hoI3⟩, reL I5 (SqX.ext (k := .l) x5.h hc2)⟩, fun o e => by rw [hsz] at e ⊢; exact un.keep _ o e hS0.1 fS (by simp), H5, F5, u, u', p0, I5, a5, (x1.trans x2').trans x5, x5.h, x5.f, ru, dv.zmono x5.f, rw', d5, rfl, ⟨free _ _ hoI hI0.1, hI0.2⟩, ⟨free _ _ ho hS0.1, hS0.2⟩, un.keep f _ hf3 hfn hfr (by simp), free _ _ hf3 hfn, x5.h.keep c' _ hco LamX.codeO_ne⟩
  case turn =>
    rintro j vb kb v s3 o hj ⟨u, hu, ru⟩ ⟨H3, F3, ub, ukb, pj, I3, a3, x3, y3, l3, rb, db, rk, dk, hpj, fI3, fS3, hf3, hfn3, hc3⟩ ⟨st1, its1, rv1, hl1⟩ ho
    rw [hsz] at ho
    obtain ⟨pn, hp, dv, hbj⟩ := key (j + 1) u v hu ru
    refine thn (lam_turn (encK := encK) (y := pn.1) (k := pn.2) hX I3 a3 hk hrA (show X.A.in1.frames = some X.stack from I2.ok.frames) hN ok hx hbd hf3 hc3 ru (dv.zmono l3) (hbj _)) fun kx s5 ⟨u', H5, F5, I5, a5, x5, un, rw', d5⟩ => ?_
    have free : ∀ b o, s3.heap.get? b = some o → H3 b = none → H5 b = none := fun b o e n => un.free b o e n (by simp)
    obtain ⟨oI, hoI, hoI2, hoI3⟩ := id st1
    have tk : (r.take (j + 1)).foldl (fun b y => if LtE.lt y.2 b.2 = true then y else b) p0 = if LtE.lt pn.2 pj.2 = true then pn else pj := by
      have hp : r[j]? = some pn := by simpa using hp
      rw [List.take_add_one, hp, List.foldl_append, ← hpj]
      rfl
    have Y : ∀ (pz : α × β) (uz ukz : V) (vz kz : Value), RelV uz vz → Dp S.K F5 uz (encA pz.1) → RelV ukz kz → Dp S.K F5 ukz (encK pz.2) → pz = (r.take (j + 1)).foldl (fun b y => if LtE.lt y.2 b.2 = true then y else b) p0 → _ := fun pz uz ukz vz kz h1 h2 h3 h4 h5 =>
      (show ∃ H3 F3 ub ukb pj, Inv X pins σ H3 s5 ∧ At S γ σ H3 F3 ∧ Ex2 S.tabs H F H3 F3 ∧ Ext S.tabs H2 H3 ∧ Le F1 F3 ∧ RelV ub vz ∧ Dp S.K F3 ub (encA pj.1) ∧ RelV ukb kz ∧ Dp S.K F3 ukb (encK pj.2) ∧ pj = (r.take (j + 1)).foldl (fun b y => if LtE.lt y.2 b.2 = true then y else b) p0 ∧
        FpOk X pins H3 s2.heap.objs.size ∧ FpOk X pins H3 (s2.heap.objs.size + 1) ∧ s5.heap.get? f = some (PySem.W.kla_obj "<lambda>" (X.env.qual ++ "<lambda>") params body scope (cloFrom X.env.cells scope.names []) pm c' ctv) ∧ H3 f = none ∧ H3 c' = some (LamX.CodeO c' (X.env.qual ++ "<lambda>")) from
      ⟨H5, F5, uz, ukz, pz, I5, a5, x3.trans x5, y3.trans x5.h, l3.trans x5.f, h1, h2, h3, h4, h5, ⟨free _ _ hoI fI3.1, fI3.2⟩, ⟨free _ _ ho fS3.1, fS3.2⟩, un.keep f _ hf3 hfn3 hfr (by simp), free _ _ hf3 hfn3, x5.h.keep c' _ hc3 LamX.codeO_ne⟩)
    obtain ⟨as1, rd1⟩ := Dp.reads I5 _ _ kx ((show Dp X.K F5 u' (encK pn.2) by rw [hX.K]; exact d5).zmono a5.hf.le) rw'
    obtain ⟨as2, rd2⟩ := Dp.reads I5 _ _ kb ((show Dp X.K F5 ukb (encK pj.2) by rw [hX.K]; exact dk.zmono x5.f).zmono a5.hf.le) rk
    have hun := hX.room.un
    refine ⟨⟨⟨oI, un.keep _ _ hoI fI3.1 fI (by simp), hoI2, hoI3⟩, reL I5 (SqX.ext (k := .l) (y3.trans x5.h) hc2)⟩, by rw [hsz]; exact un.keep _ o ho fS3.1 fS (by simp), LtE.lt pn.2 pj.2, fun Q' E' hq' => ?_, fun hc => ?_, fun hc => ?_⟩
    · refine PySem.W.rcLt_alike _ _ X.A.in1 s5 kx kb _ _ rd1 rd2 (hO.al _ _) (hO.nn _) ?_ X.prog X.w E' Q' (by rw [hO.lt]; exact hq')
      have d1 := hO.dep pn.2
      have d2 := Nat.min_le_left (encK pn.2).depth (encK pj.2).depth
      show X.A.units + 1 + min (encK pn.2).depth (encK pj.2).depth < cLine
      omega
    · exact Y pn u u' v kx ru (dv.zmono (l3.trans x5.f)) rw' d5 (by rw [tk, if_pos hc])
    · exact Y pj ub ukb vb kb rb (db.zmono x5.f) rk (dk.zmono x5.f) (by rw [tk, if_neg (by rw [hc]; exact Bool.false_ne_true)])
  case fin =>
    rintro vb kb s3 ⟨H3, F3, ub, ukb, pj, I3, a3, x3, y3, l3, rb, db, rk, dk, hpj, fI3, fS3, hf3, hfn3, hc3⟩
    refine ⟨ub, H3, I3, rb, q _ _ F3 a3 x3 ?_⟩
    rw [hlx, Nat.add_sub_cancel, List.take_length] at hpj
    rw [hy, ← hpj]
    exact db

/-- max(xs, key=g) -/
def maxKM {α β : Type} [LtE β] (g : α → Option β) (xs : List α) : Option α := (keyM g xs).bind fun ps => match ps with
  | [] => none
  | p :: r => some (r.foldl (fun b y => if LtE.lt b.2 y.2 = true then y else b) p).1
theorem e_maxK [iβ : LtE β] {c P : Addr} {y : α} (hO : OrdE encK n) (hn : n ≤ 60) (hk : 3 ≤ S.k) (hc : S.code = .ref c) (hT : (P, S.qual ++ "<lambda>") ∈ S.tabs.T) (TB : LamX.TabB S.base S.mg c P) (hg : IsGl S "max") (hm : S.mg "max" = none)
    (ha : QJ S γ a .l (xs.map encA)) (hs : PlainE a) (hb : ∀ code, ∀ y ∈ xs, EO (S.lam scope code) ((wipeG γ [i]).set i (.sh (encA y))) body encK (g y)) (hr : maxKM g xs = some y) (hN : S.N.Nodup) (ok : lam1B S.N S.sc scope [(x, i)] = true) (hx : scope.names.lookup x = some .local)
    (hdef : ∀ X : Cx, defaultsOf params X.env = ([], [])) (hbd : LamBind params body scope x) :
    EJ S γ (.Call (.Name "max" p) [a] [⟨some "key", .Lambda params body scope lpos, kpos⟩] pos) (encA y) := fun σ H F at_ Q q X hX pins s I => by
  obtain ⟨p0, r, hps, hy⟩ : ∃ p0 r, keyM g xs = some (p0 :: r) ∧ y = (r.foldl (fun b y => if LtE.lt b.2 y.2 = true then y else b) p0).1 := by
    unfold maxKM at hr
    obtain ⟨ps, h1, h2⟩ := Option.bind_eq_some_iff.mp hr
    cases ps with
    | nil => cases h2
    | cons p0 r => exact ⟨p0, r, h1, (Option.some.inj h2).symm⟩
  have hfst := keyM_fst hps
  have hpl : r.length + 1 = xs.length := by rw [← hfst, List.length_map]; rfl
  refine wpAny_Call_Name_kw (ld_blt I (hX.gl hg) (hX.mgn hm) boot_max ?_ (by decide) (by decide))
  have ra := (pa_cons (pe_w hX) pa_nil (hs [] X.env)).run pos pins s σ H (fun vs H1 => ∃ v F1, vs = [v] ∧ At S γ σ H1 F1 ∧ Ex2 S.tabs H F H1 F1 ∧ ∃ l us, v = .ref l ∧ SqL S.K H1 l us ∧ DpAll S.K F1 us (xs.map encA)) I (ha σ H F at_ _ fun v H1 F1 a1 x1 p1 => ⟨v, F1, rfl, a1, x1, p1⟩)
  refine callWith_kw (thn ra fun us0 s1 ⟨vs, H1, I1, r1, v, F1, e1, a1, x1, l, us, e2, hc1, hd1⟩ => ?_) (congrArg (backTo pos) (hs [] X.env)) (by rw [hs [] X.env]; rfl) rfl rfl
  subst e1; subst e2
  obtain rfl := Vals.ref1 r1
  show wpAny _ _ (evalAll ((do let v ← eval (.Lambda params body scope lpos) X.env; standAt pos; pure v) :: [])) _ _ s1
  have hq : X.env.qual ++ "<lambda>" = S.qual ++ "<lambda>" := by rw [hX.qual]
  have okX : LamOk1 X.N X.env.scope scope [(x, i)] := by rw [hX.N, hX.sc]; exact lamOk1_by ok
  have hfree : ∀ y ∈ scope.names, y.2 = .free → ∃ c, X.env.cells.lookup y.1 = some c := fun y hy e => by
    rcases okX.free y hy e with k | k
    · exact I1.ok.has _ (.inl k)
    · exact I1.ok.has _ (.inr k)
  refine wpAny_evalAll_cons (wpAny_bind (lam_make3 (t := S.tabs) I1 (by rw [hX.base, hX.mg]; exact TB) (by rw [hX.code]; exact hc) hq hT (a1.tabs.2.1 _ hT) (hdef X) hfree fun f c' pm ctv H2 s2 I2 x2 hf hfn hfr hco => wpAny_bind (wpAny_standAt (wpAny_pure ?_))))
  refine wpAny_evalAll_nil ?_
  rw [← hq] at hf hco
  show wpAny _ _ (call (.builtin "max") [.ref l] [(Str.ofString "key", .ref f)]) _ _ s2
  have x2' : Ex2 S.tabs H1 F1 H2 F1 := ⟨x2, Le.refl F1, fun a o e n => by rw [n] at e; cases e⟩
  have a2 : At S γ σ H2 F1 := a1.ex x2' ⟨a1.hf.ext x2, a1.hf.ntb⟩
  have hh : X.A.handled = none := I2.ok.hd hX.calm
  have hc2 : SqL S.K H2 l us := SqX.ext (k := .l) x2 hc1
  obtain ⟨its, rv, hl, hz⟩ := I2.list (show SqL X.K H2 l us by rw [hX.K]; exact hc2)
  have hlx : us.length = r.length + 1 := by rw [hd1.zlen, List.length_map, hpl]
  have hrA : Room (S.k - 2) X.A.in1 := by
    have h := hX.room
    obtain ⟨m, hm⟩ : ∃ m, S.k = m + 1 := ⟨S.k - 1, by omega⟩
    rw [hm] at h ⊢
    exact (Room.in1 h).mono (by omega)
  have hlt : l < s2.heap.objs.size := by obtain ⟨_, e, _⟩ := hl.isList; exact Heap.lt_size e
  have hsz : (s2.heap.push { cls := .type "list_iterator", data := .fields #[.ref l, .int 0 0] }).objs.size = s2.heap.objs.size + 1 := size_push' _ _
  have hI0 : FpOk X pins H2 s2.heap.objs.size := I2.fpOk (Nat.le_refl _) I2.fresh
  have hS0 : FpOk X pins H2 (s2.heap.objs.size + 1) := I2.fpOk (Nat.le_succ _) (I2.hok.fresh (Nat.le_succ _))
  have fI : s2.heap.objs.size ∉ frs X.stack := off_frs I2 _ (Nat.le_refl _)
  have fS : s2.heap.objs.size + 1 ∉ frs X.stack := off_frs I2 _ (Nat.le_succ _)
  have hfl : f < s2.heap.objs.size := Heap.lt_size hf
  have key : ∀ (j : Nat) (u : V) (v : Value), us[j]? = some u → RelV u v → ∃ pj : α × β, (p0 :: r)[j]? = some pj ∧ Dp S.K F1 u (encA pj.1) ∧ ∀ code, EO (S.lam scope code) ((wipeG γ [i]).set i (.sh (encA pj.1))) body encK (some pj.2) := fun j u v hu ru => by
    obtain ⟨d, hd, dv⟩ := hd1.zget' hu
    have hjx : j < xs.length := by
      have := (List.getElem?_eq_some_iff.mp hu).1
      omega
    rw [List.getElem?_map, List.getElem?_eq_getElem hjx] at hd
    obtain rfl : encA xs[j] = d := Option.some.inj hd
    obtain ⟨k, hpk, hgk⟩ := keyM_get hps j _ (List.getElem?_eq_getElem hjx)
    exact ⟨_, hpk, dv, fun code => by rw [← hgk]; exact hb _ _ (List.getElem_mem hjx)⟩
  have reL : ∀ {s' : Shared} {H3 : Hp}, Inv X pins σ H3 s' → SqL S.K H3 l us → ∃ its : List Value, Vals us its ∧ s'.heap.IsList l its.toArray := fun I' hq => by
    obtain ⟨its, rv, hl, _⟩ := I'.list (by rw [hX.K]; exact hq)
    exact ⟨its, rv, hl.isList⟩
  refine call_maxK (wpAny_pyIter_list hl.isList ?_)
  refine ⟨s2.heap.objs.size, _, _, _, us.length, _, _, fun j vb kb s' => ∃ H3 F3 ub ukb pj, Inv X pins σ H3 s' ∧ At S γ σ H3 F3 ∧ Ex2 S.tabs H F H3 F3 ∧ Ext S.tabs H2 H3 ∧ Le F1 F3 ∧ RelV ub vb ∧ Dp S.K F3 ub (encA pj.1) ∧ RelV ukb kb ∧ Dp S.K F3 ukb (encK pj.2) ∧ pj = (r.take j).foldl (fun b y => if LtE.lt b.2 y.2 = true then y else b) p0 ∧
      FpOk X pins H3 s2.heap.objs.size ∧ FpOk X pins H3 (s2.heap.objs.size + 1) ∧ s'.heap.get? f = some (PySem.W.kla_obj "<lambda>" (X.env.qual ++ "<lambda>") params body scope (cloFrom X.env.cells scope.names []) pm c' ctv) ∧ H3 f = none ∧ H3 c' = some (LamX.CodeO c' (X.env.qual ++ "<lambda>")),
    rfl, walks_vals (show X.A.in1.handled = none from hh) s2.heap.objs.size l (Nat.ne_of_lt hlt) us, ⟨⟨_, Heap.get?_push_size _ rfl, rfl, rfl⟩, its, rv, hl.isList.push _⟩, fun b hb => ?_, by omega, ?keep, ?first, ?turn, ?fin⟩
  · show b < (s2.heap.push _).objs.size
    rw [hsz]
    rcases List.mem_cons.mp hb with z | z
    · rw [z]; exact Nat.lt_succ_self _
    · rw [List.mem_singleton.mp z]; exact Nat.lt_succ_of_lt hlt
  case keep =>
    rintro j vb kb s3 s4 ⟨H3, F3, ub, ukb, pj, I3, a3, x3, y3, l3, rb, db, rk, dk, hpj, fI3, fS3, hf3, hfn3, hc3⟩ mv
    have hch : ∀ b, b ∉ [s2.heap.objs.size, s2.heap.objs.size + 1] → b ∉ (s2.heap.push { cls := .type "list_iterator", data := .fields #[.ref l, .int 0 0] }).objs.size :: [s2.heap.objs.size] := fun b hb z => hb (by
      rw [hsz] at z
      simp only [List.mem_cons, List.not_mem_nil, or_false] at z ⊢
      exact z.symm)
    have I4 := I3.turnedL (h' := s4.heap) (t' := s4.toks) (ch := [s2.heap.objs.size, s2.heap.objs.size + 1]) (fun b o hb e => mv.heap b o (hch b hb) e) (fun b hb => by
      rcases List.mem_cons.mp hb with z | z
      · rw [z]; exact fI3
      · rw [List.mem_singleton.mp z]; exact fS3)
    have es : s4 = { s3 with heap := s4.heap, toks := s4.toks } := by
      obtain ⟨h4, g4, d4, t4, o4⟩ := s4
      have z1 : g4 = s3.gens := mv.gens
      have z2 : d4 = s3.drawn := mv.drawn
      have z3 : o4 = s3.os := mv.os
      subst z1 z2 z3
      rfl
    rw [es]
    exact ⟨H3, F3, ub, ukb, pj, I4, a3, x3, y3, l3, rb, db, rk, dk, hpj, fI3, fS3, mv.heap f _ (hch f (by
      simp only [List.mem_cons, List.not_mem_nil, or_false, not_or]
      exact ⟨Nat.ne_of_lt hfl, Nat.ne_of_lt (Nat.lt_succ_of_lt hfl)⟩)) hf3, hfn3, hc3⟩
  case first =>
    rintro v s3 ⟨u, hu, ru⟩ mv ⟨st1, its1, rv1, hl1⟩ ⟨o, ho⟩
    rw [hsz] at ho
    have hch : ∀ b, b ∉ [s2.heap.objs.size, s2.heap.objs.size + 1] → b ∉ (s2.heap.push { cls := .type "list_iterator", data := .fields #[.ref l, .int 0 0] }).objs.size :: [s2.heap.objs.size] := fun b hb z => hb (by
      rw [hsz] at z
      simp only [List.mem_cons, List.not_mem_nil, or_false] at z ⊢
      exact z.symm)
    have I3a := I2.turnedL (h' := s3.heap) (t' := s3.toks) (ch := [s2.heap.objs.size, s2.heap.objs.size + 1]) (fun b o hb e => mv.heap b o (hch b hb) (Heap.get?_push_of_some _ e)) (fun b hb => by
      rcases List.mem_cons.mp hb with z | z
      · rw [z]; exact hI0
      · rw [List.mem_singleton.mp z]; exact hS0)
    have es : s3 = { s2 with heap := s3.heap, toks := s3.toks } := by
      obtain ⟨h4, g4, d4, t4, o4⟩ := s3
      have z1 : g4 = s2.gens := mv.gens
      have z2 : d4 = s2.drawn := mv.drawn
      have z3 : o4 = s2.os := mv.os
      subst z1 z2 z3
      rfl
    have I3 : Inv X pins σ H2 s3 := by rw [es]; exact I3a
    have hf3 := mv.heap f _ (hch f (by
      simp only [List.mem_cons, List.not_mem_nil, or_false, not_or]
      exact ⟨Nat.ne_of_lt hfl, Nat.ne_of_lt (Nat.lt_succ_of_lt hfl)⟩)) (Heap.get?_push_of_some _ hf)
    obtain ⟨pj, hp, dv, hbj⟩ := key 0 u v hu ru
    cases hp
    refine thn (lam_turn (encK := encK) (y := p0.1) (k := p0.2) hX I3 a2 hk hrA (show X.A.in1.frames = some X.stack from I2.ok.frames) hN ok hx hbd hf3 hco ru dv (hbj _)) fun kx s5 ⟨u', H5, F5, I5, a5, x5, un, rw', d5⟩ => ?_
    have free : ∀ b o, s3.heap.get? b = some o → H2 b = none → H5 b = none := fun b o e n => un.free b o e n (by simp)
    obtain ⟨oI, hoI, hoI2, hoI3⟩ := id st1
    refine ⟨⟨⟨oI, un.keep _ _ hoI hI0.1 fI (by simp), hoI2, hoI3⟩, reL I5 (SqX.ext (k := .l) x5.h hc2)⟩, fun o e => by rw [hsz] at e ⊢; exact un.keep _ o e hS0.1 fS (by simp), H5, F5, u, u', p0, I5, a5, (x1.trans x2').trans x5, x5.h, x5.f, ru, dv.zmono x5.f, rw', d5, rfl, ⟨free _ _ hoI hI0.1, hI0.2⟩, ⟨free _ _ ho hS0.1, hS0.2⟩, un.keep f _ hf3 hfn hfr (by simp), free _ _ hf3 hfn, x5.h.keep c' _ hco LamX.codeO_ne⟩
  case turn =>
    rintro j vb kb v s3 o hj ⟨u, hu, ru⟩ ⟨H3, F3, ub, ukb, pj, I3, a3, x3, y3, l3, rb, db, rk, dk, hpj, fI3, fS3, hf3, hfn3, hc3⟩ ⟨st1, its1, rv1, hl1⟩ ho
    rw [hsz] at ho
    obtain ⟨pn, hp, dv, hbj⟩ := key (j + 1) u v hu ru
    refine thn (lam_turn (encK := encK) (y := pn.1) (k := pn.2) hX I3 a3 hk hrA (show X.A.in1.frames = some X.stack from I2.ok.frames) hN ok hx hbd hf3 hc3 ru (dv.zmono l3) (hbj _)) fun kx s5 ⟨u', H5, F5, I5, a5, x5, un, rw', d5⟩ => ?_
    have free : ∀ b o, s3.heap.get? b = some o → H3 b = none → H5 b = none := fun b o e n => un.free b o e n (by simp)
    obtain ⟨oI, hoI, hoI2, hoI3⟩ := id st1
    have tk : (r.take (j + 1)).foldl (fun b y => if LtE.lt b.2 y.2 = true then y else b) p0 = if LtE.lt pj.2 pn.2 = true then pn else pj := by
      have hp : r[j]? = some pn := by simpa using hp
      rw [List.take_add_one, hp, List.foldl_append, ← hpj]
      rfl
    have Y : ∀ (pz : α × β) (uz ukz : V) (vz kz : Value), RelV uz vz → Dp S.K F5 uz (encA pz.1) → RelV ukz kz → Dp S.K F5 ukz (encK pz.2) → pz = (r.take (j + 1)).foldl (fun b y => if LtE.lt b.2 y.2 = true then y else b) p0 → _ := fun pz uz ukz vz kz h1 h2 h3 h4 h5 =>
      (show ∃ H3 F3 ub ukb pj, Inv X pins σ H3 s5 ∧ At S γ σ H3 F3 ∧ Ex2 S.tabs H F H3 F3 ∧ Ext S.tabs H2 H3 ∧ Le F1 F3 ∧ RelV ub vz ∧ Dp S.K F3 ub (encA pj.1) ∧ RelV ukb kz ∧ Dp S.K F3 ukb (encK pj.2) ∧ pj = (r.take (j + 1)).foldl (fun b y => if LtE.lt b.2 y.2 = true then y else b) p0 ∧
        FpOk X pins H3 s2.heap.objs.size ∧ FpOk X pins H3 (s2.heap.objs.size + 1) ∧ s5.heap.get? f = some (PySem.W.kla_obj "<lambda>" (X.env.qual ++ "<lambda>") params body scope (cloFrom X.env.cells scope.names []) pm c' ctv) ∧ H3 f = none ∧ H3 c' = some (LamX.CodeO c' (X.env.qual ++ "<lambda>")) from
      ⟨H5, F5, uz, ukz, pz, I5, a5, x3.trans x5, y3.trans x5.h, l3.trans x5.f, h1, h2, h3, h4, h5, ⟨free _ _ hoI fI3.1, fI3.2⟩, ⟨free _ _ ho fS3.1, fS3.2⟩, un.keep f _ hf3 hfn3 hfr (by simp), free _ _ hf3 hfn3, x5.h.keep c' _ hc3 LamX.codeO_ne⟩)
    obtain ⟨as1, rd1⟩ := Dp.reads I5 _ _ kx ((show Dp X.K F5 u' (encK pn.2) by rw [hX.K]; exact d5).zmono a5.hf.le) rw'
    obtain ⟨as2, rd2⟩ := Dp.reads I5 _ _ kb ((show Dp X.K F5 ukb (encK pj.2) by rw [hX.K]; exact dk.zmono x5.f).zmono a5.hf.le) rk
    have hun := hX.room.un
    refine ⟨⟨⟨oI, un.keep _ _ hoI fI3.1 fI (by simp), hoI2, hoI3⟩, reL I5 (SqX.ext (k := .l) (y3.trans x5.h) hc2)⟩, by rw [hsz]; exact un.keep _ o ho fS3.1 fS (by simp), LtE.lt pj.2 pn.2, fun Q' E' hq' => ?_, fun hc => ?_, fun hc => ?_⟩
    · refine PySem.W.rcGt_alike _ _ X.A.in1 s5 kx kb _ _ rd1 rd2 (hO.al _ _) (hO.nn _) ?_ X.prog X.w E' Q' (by rw [hO.lt]; exact hq')
      have d1 := hO.dep pn.2
      have d2 := Nat.min_le_left (encK pn.2).depth (encK pj.2).depth
      show X.A.units + 1 + min (encK pn.2).depth (encK pj.2).depth < cLine
      omega
    · exact Y pn u u' v kx ru (dv.zmono (l3.trans x5.f)) rw' d5 (by rw [tk, if_pos hc])
    · exact Y pj ub ukb vb kb rb (db.zmono x5.f) rk (dk.zmono x5.f) (by rw [tk, if_neg (by rw [hc]; exact Bool.false_ne_true)])
  case fin =>
    rintro vb kb s3 ⟨H3, F3, ub, ukb, pj, I3, a3, x3, y3, l3, rb, db, rk, dk, hpj, fI3, fS3, hf3, hfn3, hc3⟩
    refine ⟨ub, H3, I3, rb, q _ _ F3 a3 x3 ?_⟩
    rw [hlx, Nat.add_sub_cancel, List.take_length] at hpj
    rw [hy, ← hpj]
    exact db
end
end SM

set_option autoImplicit false
set_option Elab.async false
set_option linter.all false
set_option maxRecDepth 100000
set_option maxHeartbeats 4000000
namespace SM
open PySem PySem.Spec PyProof.Rows L2
/-! ### plain tools: sorted, min and max -/
section
variable {α β : Type}
theorem LtE.le_tr [LtE β] {a b c : β} (h1 : LtE.lt b a = false) (h2 : LtE.lt c b = false) : LtE.lt c a = false := by
  rw [Bool.eq_false_iff]
  intro h
  cases h3 : LtE.lt b c with
  | true => rw [LtE.tr b c a h3 h] at h1; cases h1
  | false =>
    have e := LtE.tri b c h3 h2
    subst e
    rw [h] at h1; cases h1
theorem LtE.le_tot [LtE β] (a b : β) : (!LtE.lt b a || !LtE.lt a b) = true := by
  cases h : LtE.lt a b with
  | true => rw [LtE.asym h]; rfl
  | false => simp
/-- in order, not strictly -/
def Srt [LtE β] (key : α → β) (xs : List α) : Prop := xs.Pairwise fun a b => LtE.lt (key b) (key a) = false
theorem mergeK_perm [LtE β] (key : α → β) (xs : List α) : (xs.mergeSort fun a b => !LtE.lt (key b) (key a)).Perm xs := List.mergeSort_perm _ _
theorem mergeK_srt [LtE β] (key : α → β) (xs : List α) : Srt key (xs.mergeSort fun a b => !LtE.lt (key b) (key a)) := by
  have h := List.pairwise_mergeSort (le := fun a b => !LtE.lt (key b) (key a)) (fun a b c h1 h2 => by
    simp only [Bool.not_eq_true'] at h1 h2 ⊢
    exact LtE.le_tr h1 h2) (fun a b => LtE.le_tot _ _) xs
  exact h.imp fun h => by simpa using h
theorem sortB_perm [LtE β] (xs : List β) : (sortB xs).Perm xs := mergeK_perm id xs
theorem sortB_srt [LtE β] (xs : List β) : Srt id (sortB xs) := mergeK_srt id xs
/-- lists in order of the same items are the same -/
theorem srt_eq [LtE β] : ∀ {xs ys : List β}, Srt id xs → Srt id ys → xs.Perm ys → xs = ys
  | [], ys, _, _, p => (List.Perm.nil_eq p)
  | x :: xs, [], _, _, p => absurd p.length_eq (by simp)
  | x :: xs, y :: ys, h1, h2, p => by
    unfold Srt at h1 h2
    obtain ⟨a1, b1⟩ := List.pairwise_cons.mp h1
    obtain ⟨a2, b2⟩ := List.pairwise_cons.mp h2
    have hxy : x = y := by
      have m1 : x ∈ y :: ys := p.mem_iff.mp List.mem_cons_self
      have m2 : y ∈ x :: xs := p.mem_iff.mpr List.mem_cons_self
      rcases List.mem_cons.mp m1 with e | m1
      · exact e
      · rcases List.mem_cons.mp m2 with e | m2
        · exact e.symm
        · exact LtE.tri _ _ (a2 x m1) (a1 y m2)
    subst hxy
    rw [srt_eq b1 b2 (List.Perm.cons_inv p)]
theorem sortB_of [LtE β] {xs ys : List β} (h : Srt id ys) (p : ys.Perm xs) : sortB xs = ys := srt_eq (sortB_srt xs) h ((sortB_perm xs).trans p.symm)
theorem sortB_id [LtE β] {xs : List β} (h : Srt id xs) : sortB xs = xs := sortB_of h (List.Perm.refl _)
/-- by insertion, for reckoning -/
def insB [LtE β] (x : β) : List β → List β
  | [] => [x]
  | y :: ys => if LtE.lt y x = true then y :: insB x ys else x :: y :: ys
def isortB [LtE β] : List β → List β
  | [] => []
  | x :: xs => insB x (isortB xs)
theorem insB_perm [LtE β] (x : β) : ∀ ys : List β, (insB x ys).Perm (x :: ys)
  | [] => List.Perm.refl _
  | y :: ys => by
    unfold insB
    split
    · exact ((insB_perm x ys).cons y).trans (List.Perm.swap x y ys)
    · exact List.Perm.refl _
theorem insB_srt [LtE β] (x : β) : ∀ {ys : List β}, Srt id ys → Srt id (insB x ys)
  | [], _ => List.pairwise_singleton _ _
  | y :: ys, h => by
    obtain ⟨a, b⟩ := List.pairwise_cons.mp h
    unfold insB
    split
    · rename_i c
      refine List.pairwise_cons.mpr ⟨fun z hz => ?_, insB_srt x b⟩
      rcases List.mem_cons.mp ((insB_perm x ys).mem_iff.mp hz) with rfl | hz
      · exact LtE.asym c
      · exact a z hz
    · rename_i c
      have c' : LtE.lt y x = false := by simpa using c
      refine List.pairwise_cons.mpr ⟨fun z hz => ?_, h⟩
      rcases List.mem_cons.mp hz with rfl | hz
      · exact c'
      · exact LtE.le_tr c' (a z hz)
theorem isortB_perm [LtE β] : ∀ xs : List β, (isortB xs).Perm xs
  | [] => List.Perm.refl _
  | x :: xs => (insB_perm x _).trans ((isortB_perm xs).cons x)
theorem isortB_srt [LtE β] : ∀ xs : List β, Srt id (isortB xs)
  | [] => List.Pairwise.nil
  | x :: xs => insB_srt x (isortB_srt xs)
theorem sortB_ins [LtE β] (xs : List β) : sortB xs = isortB xs := sortB_of (isortB_srt xs) (isortB_perm xs)
/-! keys -/
theorem keyM_tot {g : α → Option β} {key : α → β} : ∀ {xs : List α}, (∀ x ∈ xs, g x = some (key x)) → keyM g xs = some (xs.map fun x => (x, key x))
  | [], _ => rfl
  | x :: xs, h => by
    unfold keyM
    rw [h x List.mem_cons_self, keyM_tot fun y hy => h y (List.mem_cons_of_mem _ hy)]
    rfl
theorem sortKM_tot [LtE β] {g : α → Option β} {key : α → β} {xs : List α} (h : ∀ x ∈ xs, g x = some (key x)) : ∃ ys, sortKM g xs = some ys ∧ ys.Perm xs ∧ Srt key ys := by
  unfold sortKM
  rw [keyM_tot h]
  refine ⟨_, rfl, ?_, ?_⟩
  · have := (mergeK_perm (fun p : α × β => p.2) (xs.map fun x => (x, key x))).map (·.1)
    rw [List.map_map, show ((fun x : α × β => x.fst) ∘ fun x => (x, key x)) = id from rfl, List.map_id] at this
    exact this
  · have p := mergeK_perm (fun p : α × β => p.2) (xs.map fun x => (x, key x))
    have h1 := mergeK_srt (fun p : α × β => p.2) (xs.map fun x => (x, key x))
    unfold Srt at h1 ⊢
    rw [List.pairwise_map]
    refine h1.imp_of_mem fun {a b} ha hb h => ?_
    obtain ⟨x, _, rfl⟩ := List.mem_map.mp (p.mem_iff.mp ha)
    obtain ⟨y, _, rfl⟩ := List.mem_map.mp (p.mem_iff.mp hb)
    exact h
/-- the first of the least -/
theorem foldMin [LtE β] : ∀ (r : List (α × β)) (p : α × β), let m := r.foldl (fun b y => if LtE.lt y.2 b.2 = true then y else b) p; (m = p ∨ m ∈ r) ∧ LtE.lt p.2 m.2 = false ∧ ∀ y ∈ r, LtE.lt y.2 m.2 = false
  | [], p => ⟨.inl rfl, LtE.irr _, by simp⟩
  | y :: r, p => by
    rw [List.foldl_cons]
    cases h : LtE.lt y.2 p.2 with
    | true =>
      simp only [if_true]
      obtain ⟨h1, h2, h3⟩ := foldMin r y
      refine ⟨.inr (h1.elim (fun e => by rw [e]; simp) fun m => List.mem_cons_of_mem _ m), ?_, fun z hz => ?_⟩
      · exact LtE.le_tr h2 (LtE.asym h)
      · rcases List.mem_cons.mp hz with rfl | hz
        · exact h2
        · exact h3 z hz
    | false =>
      simp only [Bool.false_eq_true, if_false]
      obtain ⟨h1, h2, h3⟩ := foldMin r p
      refine ⟨h1.imp id fun m => List.mem_cons_of_mem _ m, h2, fun z hz => ?_⟩
      rcases List.mem_cons.mp hz with rfl | hz
      · exact LtE.le_tr h2 h
      · exact h3 z hz
theorem foldMax [LtE β] : ∀ (r : List (α × β)) (p : α × β), let m := r.foldl (fun b y => if LtE.lt b.2 y.2 = true then y else b) p; (m = p ∨ m ∈ r) ∧ LtE.lt m.2 p.2 = false ∧ ∀ y ∈ r, LtE.lt m.2 y.2 = false
  | [], p => ⟨.inl rfl, LtE.irr _, by simp⟩
  | y :: r, p => by
    rw [List.foldl_cons]
    cases h : LtE.lt p.2 y.2 with
    | true =>
      simp only [if_true]
      obtain ⟨h1, h2, h3⟩ := foldMax r y
      refine ⟨.inr (h1.elim (fun e => by rw [e]; simp) fun m => List.mem_cons_of_mem _ m), ?_, fun z hz => ?_⟩
      · exact LtE.le_tr (LtE.asym h) h2
      · rcases List.mem_cons.mp hz with rfl | hz
        · exact h2
        · exact h3 z hz
    | false =>
      simp only [Bool.false_eq_true, if_false]
      obtain ⟨h1, h2, h3⟩ := foldMax r p
      refine ⟨h1.imp id fun m => List.mem_cons_of_mem _ m, h2, fun z hz => ?_⟩
      rcases List.mem_cons.mp hz with rfl | hz
      · exact LtE.le_tr h h2
      · exact h3 z hz
theorem minKM_tot [LtE β] {g : α → Option β} {key : α → β} {xs : List α} (h : ∀ x ∈ xs, g x = some (key x)) (hn : xs ≠ []) : ∃ m, minKM g xs = some m ∧ m ∈ xs ∧ ∀ x ∈ xs, LtE.lt (key x) (key m) = false := by
  unfold minKM
  rw [keyM_tot h]
  cases xs with
  | nil => exact absurd rfl hn
  | cons x r =>
    obtain ⟨h1, h2, h3⟩ := foldMin (r.map fun x => (x, key x)) (x, key x)
    have hm : (List.foldl (fun b y => if LtE.lt y.2 b.2 = true then y else b) (x, key x) (r.map fun x => (x, key x))).2 = key (List.foldl (fun b y => if LtE.lt y.2 b.2 = true then y else b) (x, key x) (r.map fun x => (x, key x))).1 := by
      rcases h1 with e | m
      · rw [e]
      · obtain ⟨y, _, e⟩ := List.mem_map.mp m
        rw [← e]
    refine ⟨_, rfl, ?_, fun y hy => ?_⟩
    · rcases h1 with e | m
      · rw [e]; simp
      · obtain ⟨y, hy, e⟩ := List.mem_map.mp m
        rw [← e]; exact List.mem_cons_of_mem _ hy
    · rw [← hm]
      rcases List.mem_cons.mp hy with rfl | hy
      · exact h2
      · exact h3 (y, key y) (List.mem_map.mpr ⟨y, hy, rfl⟩)
theorem maxKM_tot [LtE β] {g : α → Option β} {key : α → β} {xs : List α} (h : ∀ x ∈ xs, g x = some (key x)) (hn : xs ≠ []) : ∃ m, maxKM g xs = some m ∧ m ∈ xs ∧ ∀ x ∈ xs, LtE.lt (key m) (key x) = false := by
  unfold maxKM
  rw [keyM_tot h]
  cases xs with
  | nil => exact absurd rfl hn
  | cons x r =>
    obtain ⟨h1, h2, h3⟩ := foldMax (r.map fun x => (x, key x)) (x, key x)
    have hm : (List.foldl (fun b y => if LtE.lt b.2 y.2 = true then y else b) (x, key x) (r.map fun x => (x, key x))).2 = key (List.foldl (fun b y => if LtE.lt b.2 y.2 = true then y else b) (x, key x) (r.map fun x => (x, key x))).1 := by
      rcases h1 with e | m
      · rw [e]
      · obtain ⟨y, _, e⟩ := List.mem_map.mp m
        rw [← e]
    refine ⟨_, rfl, ?_, fun y hy => ?_⟩
    · rcases h1 with e | m
      · rw [e]; simp
      · obtain ⟨y, hy, e⟩ := List.mem_map.mp m
        rw [← e]; exact List.mem_cons_of_mem _ hy
    · rw [← hm]
      rcases List.mem_cons.mp hy with rfl | hy
      · exact h2
      · exact h3 (y, key y) (List.mem_map.mpr ⟨y, hy, rfl⟩)
/-! rows by their places -/
theorem rng_nat (n : Nat) : rng 0 (n : Int) = (List.range n).map fun (k : Nat) => (k : Int) := by
  unfold rng
  have e : ((n : Int) - 0).toNat = n := by omega
  rw [e]
  exact List.map_congr_left fun k _ => by omega
theorem filterMap_range {h : α → Option β} : ∀ {xs : List α} {f : Nat → Option β}, (∀ (k : Nat) (x : α), xs[k]? = some x → f k = h x) → (List.range xs.length).filterMap f = xs.filterMap h
  | [], _, _ => rfl
  | x :: xs, f, hf => by
    rw [List.length_cons, List.range_succ_eq_map, List.filterMap_cons, List.filterMap_cons, hf 0 x rfl, List.filterMap_map,
      filterMap_range (f := f ∘ Nat.succ) fun k y hy => hf (k + 1) y (by simpa using hy)]
theorem filterMap_idx {f : Int → Option β} {h : α → Option β} {xs : List α} (hf : ∀ (k : Nat) (x : α), xs[k]? = some x → f (k : Int) = h x) : (rng 0 (xs.length : Int)).filterMap f = xs.filterMap h := by
  rw [rng_nat, List.filterMap_map]
  exact filterMap_range hf
/-- [xs[i] for i in range(len(xs)) if p(ys[i])], ys the worths of xs -/
theorem compM_idx {f : Int → Option (Option β)} {h : α → Option β} {xs : List α} (hf : ∀ (k : Nat) (x : α), xs[k]? = some x → f (k : Int) = some (h x)) : compM f (rng 0 (xs.length : Int)) = some (xs.filterMap h) := by
  have hg : ∀ i ∈ rng 0 (xs.length : Int), f i = some ((fun i => (f i).getD none) i) := by
    intro i hi
    rw [rng_nat] at hi
    obtain ⟨k, hk, rfl⟩ := List.mem_map.mp hi
    have hk := List.mem_range.mp hk
    simp only
    rw [hf k _ (List.getElem?_eq_getElem hk)]
    rfl
  rw [compM_ok hg, filterMap_idx (h := h) fun k x hx => by rw [hf k x hx]; rfl]
end
end SM

set_option autoImplicit false
set_option Elab.async false
set_option linter.all false
set_option maxRecDepth 100000
set_option maxHeartbeats 4000000
namespace SM
open PySem PySem.Spec PyProof.Rows L2
/-! ### sets of ints, made of a list or tuple -/
section
variable {P : Program} {w : World} {A : Around} {E : Value → Shared → Prop} {s : Shared}
abbrev newSet (w : World) : Obj := { cls := .type "set", dict := none, data := .set #[] 0 (.fresh 0 0 (!w.params.followText "set-order")) }
set_option maxHeartbeats 3200000 in
theorem call_set_lstI {l : Addr} {items : Array Value} (ns : List Int) {Q : Value → Shared → Prop} (hh : A.handled = none) (hl : s.heap.IsList l items) (hit : IntsAre items.toList ns) (hb : ns.length + 1 < scanBound)
    (h : ∀ (h' : Heap) (tk c : Nat), SetR w h' s.heap.objs.size (fun j => decide (j ∈ ns)) c → c ≤ ns.length → (∀ b o, s.heap.get? b = some o → h'.get? b = some o) → Q (.ref s.heap.objs.size) { s with heap := h', toks := tk }) :
    wpAny (model P w) A (call (.type "set") [.ref l]) Q E s := by
  have hisz : items.size = ns.length := by rw [← Array.length_toList]; exact IntsAre.length hit
  obtain ⟨c, tl, hmro⟩ := PySem.F.called_set.mro
  have hmade := PySem.F.called_set.made
  have hsub := PySem.F.called_set.sub
  refine wpAny_call (codeAny_of_tree ?_)
  show wpAny _ _ (callAny (.type "set") _) _ _ _
  refine wpAny_pure ⟨Code.quiet_builtin _ (by decide +kernel), codeAny_builtin PySem.F.entry_type_call ?_⟩
  rw [Around.under_plain (weight_type_call_type "set" [.ref l] []) rfl]
  have h1 := PySem.F.called_set.notType
  have h2 := PySem.F.called_set.canCreate
  have hct := PySem.F.typeCall_set_1 (.ref l)
  repeat (any_goals (first | assumption | wp_step))
  refine codeAny_mono (code_set_led1 (.ref l) (E := E) (Q₁ := fun obj s₁ => obj = .ref s.heap.objs.size ∧ s₁ = { s with heap := s.heap.push (newSet w) }) ⟨rfl, rfl⟩) fun r s₁ hr => ?_
  cases r with
  | error e => exact hr
  | ok fl =>
    cases fl with
    | ret obj =>
      obtain ⟨rfl, rfl⟩ := hr
      have hS : (s.heap.push (newSet w)).get? s.heap.objs.size = some (newSet w) := Heap.get?_push_size _ rfl
      have hT : Shared.TypeIs { s with heap := s.heap.push (newSet w) } (.ref s.heap.objs.size) "set" := ⟨_, hS, rfl⟩
      have hli := PySem.F.called_set.init.lookup
      have hbi := PySem.F.called_set.init.bind (.ref s.heap.objs.size)
      repeat (any_goals (first | assumption | wp_step))
      refine codeAny_mono (codeAny_call_builtin (R := wants (fun r s₂ => r = .none ∧ ∃ h' tk c, s₂ = { s with heap := h', toks := tk } ∧ SetR w h' s.heap.objs.size (fun j => decide (j ∈ ns)) c ∧ c ≤ ns.length ∧
          (∀ b o, s.heap.get? b = some o → h'.get? b = some o)) E) PySem.F.called_set.init.plain PySem.F.entry_set_init (check_set_init_1 hT ?_)) fun r₂ s₂ hr₂ => ?_
      · obtain ⟨⟨ocls, odict, odata, oslots⟩, hol, hcl, nl, hdl⟩ := hl
        simp only at hcl hdl
        subst hcl; subst hdl
        have hlS : l < s.heap.objs.size := Heap.lt_size hol
        have hol' := Heap.get?_push_of_some (newSet w) hol
        have hsls := PySem.F.sub_list_set
        have hslf := PySem.F.sub_list_frozenset
        have hne : (Value.type "list" == Value.type "dict") = false := by decide
        have hl1 : (s.heap.push (newSet w)).IsList l items := ⟨_, hol', rfl, nl, rfl⟩
        unfold Builtin.«set.__init__» noKeywords Builtin.Frozenset.updateFrom
        generalize hPI : pyIter = PI
        wp_walk
        subst hPI
        refine wpAny_pyIter_list hl1 (wpAny_bind (wpAny_runValue ?_))
        have hsz : (s.heap.push (newSet w)).objs.size = s.heap.objs.size + 1 := Heap.size_push ..
        have hneI : l ≠ (s.heap.push (newSet w)).objs.size := by rw [hsz]; exact Nat.ne_of_lt (Nat.lt_succ_of_lt hlS)
        have hSf : s.heap.objs.size ∉ [(s.heap.push (newSet w)).objs.size, l] := by
          rw [hsz]; simp only [List.mem_cons, List.not_mem_nil, or_false, not_or]
          exact ⟨Nat.ne_of_lt (Nat.lt_succ_self _), Nat.ne_of_gt hlS⟩
        refine set_update_ints ((Walks.list (show A.in1.in1.in1.handled = none by simp [hh]) _ l hneI items).toS) s.heap.objs.size
          hSf ns hisz hb (fun i v hv => ?hval) (items.size - 0) 0 _ (by omega) (Nat.zero_le _)
          ⟨⟨_, Heap.get?_push_size _ rfl, rfl, rfl⟩, (hl1.push _)⟩ ⟨0, Nat.le_refl 0, setR_new_at (Heap.get?_push_of_some _ hS)⟩ ?hR
        case hval =>
          have hi : i < ns.length := by rw [← hisz]; exact (Array.getElem?_eq_some_iff.mp hv).1
          obtain ⟨t, e⟩ := PyProof.Rows.IntsAre.int_at hit i v (by rw [Array.getElem?_toList]; exact hv)
          exact ⟨ns[i], t, List.getElem?_eq_getElem hi, by rw [e, List.getD_eq_getElem?_getD, List.getElem?_eq_getElem hi]; rfl⟩
        case hR =>
          intro s' c' hm hc' hS'
          have es : s' = { s with heap := s'.heap, toks := s'.toks } := by
            obtain ⟨h', g2, d', tk', os'⟩ := s'
            have eg : g2 = s.gens := hm.gens
            have ed : d' = s.drawn := hm.drawn
            have eo : os' = s.os := hm.os
            subst eg; subst ed; subst eo
            rfl
          show wpAny _ _ _ _ _ _
          refine wpAny_pure ?_
          show wpAny _ _ (ret Value.none) _ _ _
          refine wpAny_pure ⟨rfl, s'.heap, s'.toks, c', es, hS', hisz ▸ hc', fun b o e => ?_⟩
          have hb0 : b < s.heap.objs.size := Heap.lt_size e
          refine hm.heap b o ?_ (Heap.get?_push_of_some _ (Heap.get?_push_of_some _ e))
          rw [hsz]
          simp only [List.mem_cons, List.not_mem_nil, or_false, not_or]
          exact ⟨Nat.ne_of_lt hb0, Nat.ne_of_lt (Nat.lt_succ_of_lt hb0)⟩
      · cases r₂ with
        | error e => exact hr₂
        | ok fl₂ =>
          cases fl₂ with
          | ret r =>
            obtain ⟨rfl, h', tk, c, rfl, hS', hc, hk'⟩ := hr₂
            repeat (any_goals (first | assumption | wp_step))
            exact h _ _ _ hS' hc hk'
          | _ => exact hr₂.elim
    | _ => exact hr.elim
end
end SM

set_option autoImplicit false
set_option Elab.async false
set_option linter.all false
set_option maxRecDepth 100000
set_option maxHeartbeats 4000000
namespace SM
open PySem PySem.Spec PyProof.Rows L2
/-! ### len(set(xs)), sorted(set(xs)) of ints -/
/-- each once -/
def dd {α : Type} [DecidableEq α] : List α → List α
  | [] => []
  | x :: xs => if x ∈ xs then dd xs else x :: dd xs
theorem mem_dd {α : Type} [DecidableEq α] {y : α} : ∀ {xs : List α}, y ∈ dd xs ↔ y ∈ xs
  | [] => by simp [dd]
  | x :: xs => by
    unfold dd
    split
    · rename_i h
      rw [mem_dd, List.mem_cons]
      exact ⟨.inr, fun z => z.elim (fun e => e ▸ h) id⟩
    · rw [List.mem_cons, List.mem_cons, mem_dd]
theorem dd_nodup {α : Type} [DecidableEq α] : ∀ xs : List α, (dd xs).Nodup
  | [] => List.Pairwise.nil
  | x :: xs => by
    unfold dd
    split
    · exact dd_nodup xs
    · rename_i h
      exact List.nodup_cons.mpr ⟨fun z => h (mem_dd.mp z), dd_nodup xs⟩
theorem dd_len {α : Type} [DecidableEq α] {xs ys : List α} (h1 : ys.Nodup) (h2 : ∀ k, k ∈ ys ↔ k ∈ xs) : ys.length = (dd xs).length :=
  ((List.perm_ext_iff_of_nodup h1 (dd_nodup xs)).mpr fun k => (h2 k).trans mem_dd.symm).length_eq
/-- len(set(xs)) -/
def lenSetO {α : Type} [DecidableEq α] (xs : List α) : Option Int := if xs.length ≤ 1000 then some ((dd xs).length : Int) else none
/-- sorted(set(xs)) -/
def sortSetO {α : Type} [DecidableEq α] [LtE α] (xs : List α) : Option (List α) := if xs.length ≤ 1000 ∧ (dd xs).length < 64 then some (sortB (dd xs)) else none
section
variable {X : Cx}
def rSetI (K : PySem.W.Frag) (w : World) : List V → Hp → VK → Prop := fun vs H Q => ∃ (l : Addr) (ns : List Int), vs = [V.ref l] ∧ (SqL K H l (ns.map V.int) ∨ SqT K H l (ns.map V.int)) ∧ ns.length ≤ 1000 ∧
  ∀ p, H p = none → Q (.ref p) (upd H p (SetO w p (fun j => decide (j ∈ ns)) (dd ns).length))
theorem cr_setI (hc : X.calm = true) : CallR X (.type "set") (rSetI X.K X.w) := by
  intro pins s σ H vs us Q I r h
  obtain ⟨l, ns, rfl, hs, hl, q⟩ := h
  obtain rfl := Vals.ref1 r
  have fin : ∀ (h' : Heap) (tk c : Nat), SetR X.w h' s.heap.objs.size (fun j => decide (j ∈ ns)) c → c ≤ ns.length → (∀ b o, s.heap.get? b = some o → h'.get? b = some o) → EP X pins σ Q (.ref s.heap.objs.size) { s with heap := h', toks := tk } := fun h' tk c R _ k => by
    have hn : c = (dd ns).length := by
      obtain ⟨o, es, ep, t, ho, hx, hd, g, nd, hm, hb, hf, hn, _⟩ := R
      rw [← hn, ← dd_len nd fun k => (hm k).symm.trans decide_eq_true_iff, List.length_map, Array.length_toList]
    subst hn
    exact ⟨.ref _, _, I.laid (t' := tk) k (Nat.le_refl _) (setO_new R), rfl, q _ (I.hok.fresh (Nat.le_refl _))⟩
  rcases hs with hs | hs
  · obtain ⟨its, rv, hl2, hz⟩ := I.list hs
    exact call_set_lstI ns (I.ok.hd hc) hl2.isList (by simpa using ints_of_vals rv) (by show ns.length + 1 < 4096; omega) fin
  · obtain ⟨its, rv, hl2, hz⟩ := I.tuple hs
    exact call_set_tupI ns (I.ok.hd hc) hl2 (by simpa using ints_of_vals rv) (by show ns.length + 1 < 4096; omega) fin
theorem cr_lenSetO : CallR X (.builtin "len") (fun vs H Q => ∃ (a : Addr) (S : Int → Bool) (n : Nat), vs = [V.ref a] ∧ H a = some (SetO X.w a S n) ∧ Q (.int n) H) := by
  intro pins s σ H vs us Q I r h
  obtain ⟨a, S, n, rfl, ha, q⟩ := h
  obtain rfl := Vals.ref1 r
  obtain ⟨o, es, ep, t, ho, hx, hd, g, nd, hm, hb, hf, hn, _⟩ := setO_get I ha
  refine call_len_set ho hx hd hf (by have : es.size < 4096 := hb; omega) ⟨.int n, H, I.tok _, ⟨_, by rw [hn]⟩, q⟩
end
theorem boot_set' : bootBuiltins "set" = some (.type "set") := PyProof.Rows.boot_set
section
variable {S : Stat} {γ : Gm} {a : Expr} {pos p p2 q2 : Pos} {ns : List Int} {k : SK}
theorem set_ew (hg : IsGl S "set") (hm : S.mg "set" = none) (ha : QJ S γ a k (ns.map .int)) (hs : PlainE a) (hl : ns.length ≤ 1000) :
    EW S γ (.Call (.Name "set" p2) [a] [] q2) (fun v H0 H' F' => ∃ b, v = .ref b ∧ H0 b = none ∧ H' b = some (SetO S.w b (fun j => decide (j ∈ ns)) (dd ns).length)) :=
  w_t1 (r := rSetI S.K S.w) (fun X hX => by rw [← hX.K, ← hX.w]; exact cr_setI hX.calm) hg hm boot_set' hs ha (fun v H0 F0 H F Q at_ x ⟨q, vs, e1, h1, h2⟩ k2 => by
    subst e1
    obtain rfl := DpAll.ints h2
    refine ⟨q, ns, rfl, ?_, hl, fun l hn => k2 _ _ _ (at_.hf.newH hn) (ex_newH hn) ⟨l, rfl, x.h.back hn, upd_same⟩⟩
    cases k with
    | l => exact .inl h1
    | t => exact .inr h1) (by decide) (by decide)
theorem e_lenSet {n : Int} (hg : IsGl S "len") (hm : S.mg "len" = none) (hg2 : IsGl S "set") (hm2 : S.mg "set" = none) (ha : QJ S γ a k (ns.map .int)) (hs : PlainE a) (hr : lenSetO ns = some n) (hs2 : PlainE (.Call (.Name "set" p2) [a] [] q2)) : EJ S γ (.Call (.Name "len" p) [.Call (.Name "set" p2) [a] [] q2] [] pos) (.int n) := by
  unfold lenSetO at hr
  split at hr
  · rename_i hl
    cases hr
    exact w_b1 (r := fun vs H Q => ∃ (a : Addr) (Sx : Int → Bool) (n : Nat), vs = [V.ref a] ∧ H a = some (SetO S.w a Sx n) ∧ Q (.int n) H) (fun X hX => by rw [← hX.w]; exact cr_lenSetO) hg hm PySem.boot_len hs2 (set_ew hg2 hm2 ha hs hl) (fun v H0 F0 H F Q at_ x ⟨b, e1, _, h2⟩ k2 => by
      subst e1
      exact ⟨b, _, _, rfl, h2, k2 _ H F at_.hf (Ex2.refl H F) (.int _)⟩) (by decide) (by decide)
  · cases hr
end
end SM

set_option autoImplicit false
set_option Elab.async false
set_option linter.all false
set_option maxRecDepth 100000
set_option maxHeartbeats 4000000
namespace SM
open PySem PySem.Spec PyProof.Rows L2
/-! ### sorted(set(xs)) of ints -/
theorem dpAll_ints {K : PySem.W.Frag} {F : Hp} : ∀ {ns : List Int}, DpAll K F (ns.map V.int) (ns.map eI)
  | [] => .nil
  | n :: ns => .cons (.int n) dpAll_ints
theorem sortSet_eq {xs ns : List Int} (h1 : ns.Pairwise (· < ·)) (h2 : ∀ k, k ∈ ns ↔ k ∈ xs) : sortB (dd xs) = ns := by
  refine sortB_of ?_ ?_
  · exact h1.imp fun {a b} h => by
      show decide (b < a) = false
      exact decide_eq_false (by omega)
  · exact (List.perm_ext_iff_of_nodup (h1.imp fun {a b} h => by omega) (dd_nodup xs)).mpr fun k => (h2 k).trans mem_dd.symm
section
variable {S : Stat} {γ : Gm} {a : Expr} {pos p p2 q2 : Pos} {ns ys : List Int} {k : SK}
theorem f_sortSet (hg : IsGl S "sorted") (hm : S.mg "sorted" = none) (hg2 : IsGl S "set") (hm2 : S.mg "set" = none) (ha : QJ S γ a k (ns.map .int)) (hs : PlainE a) (hs2 : PlainE (.Call (.Name "set" p2) [a] [] q2)) (hr : sortSetO ns = some ys) :
    FJ S γ (.Call (.Name "sorted" p) [.Call (.Name "set" p2) [a] [] q2] [] pos) (ys.map eI) := by
  unfold sortSetO at hr
  split at hr
  · rename_i hl
    cases hr
    exact w_b1 (r := L2.rSortedSet S.w) (fun X hX => by rw [← hX.w]; exact cr_sortedSet hX.calm) hg hm boot_sorted hs2 (set_ew hg2 hm2 ha hs hl.1) (fun v H0 F0 H F Q at_ x ⟨b, e1, _, h2⟩ k2 => by
      subst e1
      refine ⟨b, _, _, rfl, h2, hl.2, fun ns' l hp hmem hlen hn => ?_⟩
      have e := sortSet_eq hp fun k => (hmem k).trans decide_eq_true_iff
      rw [← e]
      exact k2 _ _ _ (at_.hf.newH hn) (ex_newH hn) ⟨l, _, rfl, x.h.back hn, at_.hf.fnone hn, upd_same, dpAll_ints⟩) (by decide) (by decide)
  · cases hr
end
end SM

set_option autoImplicit false
set_option Elab.async false
set_option linter.all false
set_option maxRecDepth 100000
set_option maxHeartbeats 4000000
namespace SM
open PySem PySem.Spec PyProof.Rows L2
/-! ### owned lists lent to an expression whose value holds no list -/
/-- G knows the tuples of F -/
def TupLe (F G : Hp) : Prop := ∀ a xs, Rd F a (.tup xs) → Rd G a (.tup xs)
theorem TupLe.sqT {K : PySem.W.Frag} {F G : Hp} {a : Addr} {xs : List V} (e : TupLe F G) (h : SqT K F a xs) : SqT K G a xs := h.imp (e a xs) id
structure NoL {α : Type} (enc : α → PyData) : Prop where
  dp : ∀ (K : PySem.W.Frag) (F G : Hp) (v : V) (x : α), TupLe F G → Dp K F v (enc x) → Dp K G v (enc x)
theorem NoL.all {α : Type} {enc : α → PyData} (h : NoL enc) {K : PySem.W.Frag} {F G : Hp} (e : TupLe F G) : ∀ {xs : List α} {vs : List V}, DpAll K F vs (xs.map enc) → DpAll K G vs (xs.map enc)
  | [], _, d => by cases d; exact .nil
  | x :: xs, _, d => by cases d with | cons a b => exact .cons (h.dp K F G _ x e a) (h.all e b)
theorem noL_I : NoL eI := ⟨fun K F G v x e d => by cases d; exact .int _⟩
theorem noL_B : NoL eB := ⟨fun K F G v x e d => by cases d; exact .bl _⟩
theorem noL_S : NoL eS := ⟨fun K F G v x e d => by cases d; exact .str _⟩
theorem noL_N : NoL eN := ⟨fun K F G v x e d => by cases d; exact .non⟩
theorem noL_T {α : Type} {enc : α → PyData} (h : NoL enc) : NoL (eT enc) := ⟨fun K F G v x e d => by
  cases d with | tup a b => exact .tup (e.sqT a) (h.all e b)⟩
theorem noL_O {α : Type} {enc : α → PyData} (h : NoL enc) : NoL (eO enc) := ⟨fun K F G v x e d => by
  cases x with
  | none => cases d; exact .non
  | some y => exact h.dp K F G v y e d⟩
theorem noL_P2 {α β : Type} {e1 : α → PyData} {e2 : β → PyData} (h1 : NoL e1) (h2 : NoL e2) : NoL (eP2 e1 e2) := ⟨fun K F G v x e d => by
  cases d with
  | tup a b =>
    cases b with
    | cons b1 b => cases b with
      | cons b2 b => cases b; exact .tup (e.sqT a) (.cons (h1.dp K F G _ _ e b1) (.cons (h2.dp K F G _ _ e b2) .nil))⟩
theorem noL_P3 {α β γ : Type} {e1 : α → PyData} {e2 : β → PyData} {e3 : γ → PyData} (h1 : NoL e1) (h2 : NoL e2) (h3 : NoL e3) : NoL (eP3 e1 e2 e3) := ⟨fun K F G v x e d => by
  cases d with
  | tup a b =>
    cases b with
    | cons b1 b => cases b with
      | cons b2 b => cases b with
        | cons b3 b => cases b; exact .tup (e.sqT a) (.cons (h1.dp K F G _ _ e b1) (.cons (h2.dp K F G _ _ e b2) (.cons (h3.dp K F G _ _ e b3) .nil)))⟩
theorem noL_P4 {α β γ δ : Type} {e1 : α → PyData} {e2 : β → PyData} {e3 : γ → PyData} {e4 : δ → PyData} (h1 : NoL e1) (h2 : NoL e2) (h3 : NoL e3) (h4 : NoL e4) : NoL (eP4 e1 e2 e3 e4) := ⟨fun K F G v x e d => by
  cases d with
  | tup a b =>
    cases b with
    | cons b1 b => cases b with
      | cons b2 b => cases b with
        | cons b3 b => cases b with
          | cons b4 b => cases b; exact .tup (e.sqT a) (.cons (h1.dp K F G _ _ e b1) (.cons (h2.dp K F G _ _ e b2) (.cons (h3.dp K F G _ _ e b3) (.cons (h4.dp K F G _ _ e b4) .nil))))⟩
/-- without a -/
def rmA (F : Hp) (a : Addr) : Hp := fun b => if b = a then none else F b
theorem rmA_ne {F : Hp} {a b : Addr} (h : b ≠ a) : rmA F a b = F b := if_neg h
theorem rmA_same {F : Hp} {a : Addr} : rmA F a a = none := if_pos rfl
theorem rmA_some {F : Hp} {a b : Addr} {o : HO} (h : rmA F a b = some o) : b ≠ a ∧ F b = some o := by
  unfold rmA at h
  split at h
  · cases h
  · rename_i n; exact ⟨n, h⟩
theorem rmA_tup {F : Hp} {a : Addr} {vs : List V} (h : F a = some (.lst vs)) : TupLe F (rmA F a) := fun b xs r => by
  have n : b ≠ a := by
    intro z
    subst z
    rcases r with r | ⟨o, r⟩ <;> (rw [h] at r; cases r)
  rcases r with r | ⟨o, r⟩
  · exact .inl (by rw [rmA_ne n]; exact r)
  · exact .inr ⟨o, by rw [rmA_ne n]; exact r⟩
section
variable {S : Stat} {γ : Gm} {σ : L2.St} {H F H' F' : Hp} {a : Addr} {vs : List V} {j : Nat} {ds : List PyData} {e : Expr}
theorem At.lend (h : At S γ σ H F) (hg : γ[j]? = some (.ow (.list ds))) : ∃ a vs, H a = some (.lst vs) ∧ F a = none ∧ S.B a = none ∧ σ[j]? = some (some (.ref a)) ∧ At S (γ.set j (.sh (.list ds))) σ H (upd F a (.lst vs)) := by
  obtain ⟨a, h1, hB, hF, vs, h2, h3⟩ := h.ow j _ hg
  have lo : ∀ (k : Nat) (e : PyData), (γ.set j .un)[k]? = some (.ow e) → σ[k]? ≠ some (some (.ref a)) := fun k e hk z => by
    rcases set_cases hk with ⟨_, e1, _⟩ | ⟨hne, hk⟩
    · cases e1
    · exact hne (h.apart k j e _ a hk hg z h1)
  have hf : HF H (upd F a (.lst vs)) := h.hf.share h2 fun _ z => by cases z
  have le : Le F (upd F a (.lst vs)) := Le.new hF
  refine ⟨a, vs, h2, hF, hB, h1, ⟨⟨h.ext, hf, h.f0.trans le, fun b o e n => ?_, h.tabs⟩, by rw [List.length_set]; exact h.len, fun k e hk => ?_, fun k e hk => ?_, fun k l e f b hk hl x y => ?_, fun k n kvs hk => ?_⟩⟩
  · by_cases hb : b = a
    · subst hb; exact hB
    · rw [upd_ne hb] at e; exact h.new b o e n
  · rcases set_cases hk with ⟨rfl, e1, _⟩ | ⟨hne, hk⟩
    · cases e1
      exact ⟨.ref a, h1, .lst (SqL.of upd_same) (h3.zmono le)⟩
    · obtain ⟨v, g1, g2⟩ := h.sh k e hk
      exact ⟨v, g1, g2.zmono le⟩
  · rcases set_cases hk with ⟨rfl, e1, _⟩ | ⟨hne, hk⟩
    · cases e1
    · obtain ⟨b, g1, g2⟩ := h.ow k e hk
      refine ⟨b, g1, g2.keep (fun _ z => z) le ?_⟩
      rw [upd_ne (fun z => hne (h.apart k j e _ a hk hg (by rw [g1, z]) h1))]
      exact g2.fnone
  · rcases set_cases hk with ⟨rfl, e1, _⟩ | ⟨_, hk⟩
    · cases e1
    · rcases set_cases hl with ⟨rfl, e1, _⟩ | ⟨_, hl⟩
      · cases e1
      · exact h.apart k l e f b hk hl x y
  · rcases set_cases hk with ⟨rfl, e1, _⟩ | ⟨hne, hk⟩
    · cases e1
    · obtain ⟨b, o, ks, q1, q2, q3, q4⟩ := h.lk k n kvs hk
      exact ⟨b, o, ks, q1, q2, le _ _ q3, q4.zmono le⟩
theorem At.back (h : At S γ σ H F) (h1 : H a = some (.lst vs)) (h2 : F a = none) (h4 : At S (γ.set j (.sh (.list ds))) σ H' F') (x : Ex2 S.tabs H (upd F a (.lst vs)) H' F') :
    At S γ σ H' (rmA F' a) ∧ Ex2 S.tabs H F H' (rmA F' a) ∧ TupLe F' (rmA F' a) := by
  have x2 : Ex2 S.tabs H F H' (rmA F' a) := ⟨x.h, fun b o e => by
      have n : b ≠ a := fun z => by subst z; rw [h2] at e; cases e
      rw [rmA_ne n]
      exact x.f b o (by rw [upd_ne n]; exact e), fun b o e n => by
      obtain ⟨n1, e1⟩ := rmA_some e
      exact x.n b o e1 (by rw [upd_ne n1]; exact n)⟩
  exact ⟨h.ex x2 ⟨fun b o e => h4.hf.sub b o (rmA_some e).2, fun b ps e => h4.hf.ntb b ps (rmA_some e).2⟩, x2, rmA_tup (x.f a _ upd_same)⟩
theorem e_bor {α : Type} {enc : α → PyData} {x : α} (hg : γ[j]? = some (.ow (.list ds))) (hn : NoL enc) (h : EJ S (γ.set j (.sh (.list ds))) e (enc x)) : EJ S γ e (enc x) := fun σ H F at_ Q q => by
  obtain ⟨a, vs, h1, h2, h3, h4, at2⟩ := at_.lend hg
  refine h σ H _ at2 Q fun v H' F' a1 x1 d => ?_
  obtain ⟨b1, b2, b3⟩ := at_.back h1 h2 a1 x1
  exact q v H' _ b1 b2 (hn.dp _ _ _ _ _ b3 d)
theorem f_bor {α : Type} {enc : α → PyData} {xs : List α} (hg : γ[j]? = some (.ow (.list ds))) (hn : NoL enc) (h : FJ S (γ.set j (.sh (.list ds))) e (xs.map enc)) : FJ S γ e (xs.map enc) := fun σ H F at_ Q q => by
  obtain ⟨a, vs, h1, h2, h3, h4, at2⟩ := at_.lend hg
  refine h σ H _ at2 Q fun v H' F' a1 x1 ⟨b, us, e1, g1, g2, g3, g4⟩ => ?_
  obtain ⟨b1, b2, b3⟩ := at_.back h1 h2 a1 x1
  have nb : rmA F' a b = none := by
    cases z : rmA F' a b with
    | none => rfl
    | some o => rw [(rmA_some z).2] at g2; cases g2
  exact q v H' _ b1 b2 ⟨b, us, e1, g1, nb, g3, hn.all b3 g4⟩
theorem t_bor {k : Bool} (hg : γ[j]? = some (.ow (.list ds))) (h : TJ S (γ.set j (.sh (.list ds))) e k) : TJ S γ e k := fun σ H F at_ Q q => by
  obtain ⟨a, vs, h1, h2, h3, h4, at2⟩ := at_.lend hg
  refine h σ H _ at2 Q fun H' F' a1 x1 => ?_
  obtain ⟨b1, b2, b3⟩ := at_.back h1 h2 a1 x1
  exact q H' _ b1 b2
end
end SM

set_option autoImplicit false
set_option Elab.async false
set_option linter.all false
set_option maxRecDepth 100000
set_option maxHeartbeats 4000000
namespace SM
open PySem PySem.Spec PyProof.Rows L2 GenW
/-! ### generator expressions of two clauses -/
theorem eval_gx2 (elt target iter t1 iter1 : Expr) (ifs ifs1 : List Expr) (scope : Scope) (pos : Pos) (env : Env) (hco : scope.isCoroutine = false) :
    eval (.GeneratorExp elt [⟨target, iter, ifs, 0⟩, ⟨t1, iter1, ifs1, 0⟩] scope pos) env = (do
      let xv ← eval iter env
      standAt iter.pos
      let xv ← genFold iter env xv
      let it ← holding [xv] (pyIter xv)
      enterFrame
      let cl ← closureFor scope env
      let code ← genexprCode env pos (env.qual ++ "<genexpr>") scope
      let bi ← builtinsFor env.globals env.builtins
      let cenv ← newFunctionEnv scope env.globals cl [(".0", it)] (env.qual ++ "<genexpr>.") none code none bi
      newGenerator (.compStart (.GeneratorExp elt [⟨target, iter, ifs, 0⟩, ⟨t1, iter1, ifs1, 0⟩] scope pos) 0 it .none cenv) "<genexpr>" (env.qual ++ "<genexpr>")) := by
  rw [arm_eval_GeneratorExp]
  simp only [hco, Bool.false_eq_true, if_false]
  cases iter <;> rfl
section
variable {M : Model} {A : Around} {E : Value → Shared → Prop} {s : Shared}
theorem gx2_make {env : Env} {elt target iter t1 iter1 : Expr} {ifs ifs1 : List Expr} {scope : Scope} {cl : List (Str × Addr)} {pos : Pos} {Q : Value → Shared → Prop}
    (hco : scope.isCoroutine = false) (hclos : closureFor scope env = pure cl) (hcell : ∀ y ∈ scope.names, y.2 ≠ .cell) (h0 : scope.names.lookup (".0" : Str) = some NameKind.local) (hkind : scope.kind = .function)
    (hroom : A.depth < recursionLimit)
    (h : wpAny M A (eval iter env) (fun xv s₁ => wpAny M A (pyIter xv) (fun it s₂ => s₂.heap.NoLimit ∧
      wpAny M A (genexprCode env pos (env.qual ++ "<genexpr>") scope) (fun code s₃ => wpAny M A (builtinsFor env.globals env.builtins) (fun bi s₄ =>
        ∀ h', h'.Ns s₄.heap.objs.size (fun y => if y = ".0" then some it else none) → Heap.SameBut s₄.heap.objs.size (s₄.heap.push { cls := .type "frame", data := .dict #[] }) h' →
          Q (.ref h'.objs.size) { s₄ with
            gens := s₄.gens.push (.fresh (.compStart (.GeneratorExp elt [⟨target, iter, ifs, 0⟩, ⟨t1, iter1, ifs1, 0⟩] scope pos) 0 it .none (genEnv scope cl s₄.heap.objs.size code bi env))),
            toks := s₄.toks + 1 + 1 + 1,
            heap := h'.push { cls := .type "generator", data := .fields #[.int s₄.gens.size 0, .str "<genexpr>" (s₄.toks + 1), .str (env.qual ++ "<genexpr>") (s₄.toks + 1 + 1)] } }) E s₃) E s₂) E s₁) E s)
    (hs : ∀ x, genFold iter env x = pure x) :
    wpAny M A (eval (.GeneratorExp elt [⟨target, iter, ifs, 0⟩, ⟨t1, iter1, ifs1, 0⟩] scope pos) env) Q E s := by
  rw [eval_gx2 _ _ _ _ _ _ _ _ _ _ hco, hclos]
  refine wpAny_bind (wpAny_mono h (fun xv s₁ h₁ => ?_) fun _ _ e => e)
  refine wpAny_bind (wpAny_standAt ?_)
  refine wpAny_bind (wpAny_of_eq (hs xv) ?_)
  refine wpAny_bind (wpAny_holding (wpAny_mono h₁ (fun it s₂ h₂ => ?_) fun _ _ e => e))
  refine wpAny_bind (wpAny_enterFrame h₂.1 hroom ?_)
  refine wpAny_bind (wpAny_pure ?_)
  refine wpAny_bind (wpAny_mono h₂.2 (fun code s₃ h₃ => ?_) fun _ _ e => e)
  refine wpAny_bind (wpAny_mono h₃ (fun bi s₄ h₄ => ?_) fun _ _ e => e)
  have hbinds : ∀ y ∈ ([((".0" : Str), it)] : List (Str × Value)), scope.names.lookup y.1 = some NameKind.local := by
    intro y hy
    rcases List.mem_cons.mp hy with rfl | hy
    · exact h0
    · cases hy
  refine wpAny_bind (wpAny_newFunctionEnv hcell hbinds (fun h' hn' hs' => ?_) hkind)
  have e : (fun y : Str => ([((".0" : Str), it)] : List (Str × Value)).reverse.lookup y) = fun y : Str => if y = (".0" : Str) then some it else none := by
    funext y
    by_cases hy : y = ".0"
    · subst hy; simp
    · have : (y == (".0" : Str)) = false := by simpa using hy
      simp [List.lookup, this, hy]
  rw [e] at hn'
  simp only [newGenerator, newFields]
  refine wpAny_bind (wpAny_newGen (wpAny_bind (wpAny_mkText (wpAny_bind (wpAny_mkText (wpAny_newObj_type ?_ (by size_fits)))))))
  exact h₄ h' hn' hs'
end
theorem gxT_out (elt t0 i0 t1 i1 : Expr) (ifs0 ifs1 : List Expr) (scope : Scope) (pos : Pos) (it acc : Value) (env : Env) :
    compTurn (.GeneratorExp elt [⟨t0, i0, ifs0, 0⟩, ⟨t1, i1, ifs1, 0⟩] scope pos) 0 it acc env = (do
      standAt i0.pos
      match ← pyNext it with
      | none => pure (.done .next)
      | some v =>
        letOwnedTupleGo t0 it v
        assign t0 env v
        let mut ok := true
        for c in ifs0 do
          if ok then ok ← isTrue c env (eval c env)
        if ok then
          let x ← eval i1 env
          standAt i1.pos
          let x ← foldedSetIterable i1 env x
          let _ ← runOwn (.compStart (.GeneratorExp elt [⟨t0, i0, ifs0, 0⟩, ⟨t1, i1, ifs1, 0⟩] scope pos) 1 (← holding [x] (pyIter x)) acc env) env
        again (.compLoop (.GeneratorExp elt [⟨t0, i0, ifs0, 0⟩, ⟨t1, i1, ifs1, 0⟩] scope pos) 0 it acc env)) := by rfl
theorem gxT_in (elt t0 i0 t1 i1 : Expr) (ifs0 ifs1 : List Expr) (scope : Scope) (pos : Pos) (it acc : Value) (env : Env) :
    compTurn (.GeneratorExp elt [⟨t0, i0, ifs0, 0⟩, ⟨t1, i1, ifs1, 0⟩] scope pos) 1 it acc env = (do
      standAt i1.pos
      match ← pyNext it with
      | none => pure (.done .next)
      | some v =>
        letOwnedTupleGo t1 it v
        assign t1 env v
        let mut ok := true
        for c in ifs1 do
          if ok then ok ← isTrue c env (eval c env)
        if ok then
          (do let v ← eval elt env; standAt elt.pos; let _ ← yieldOut env v)
        again (.compLoop (.GeneratorExp elt [⟨t0, i0, ifs0, 0⟩, ⟨t1, i1, ifs1, 0⟩] scope pos) 1 it acc env)) := by rfl
/-- what a turn of the outer clause is to reach; mb: what is left behind the inner loop -/
def GxTurn2 (J : It) (al : Bool) (g : TG) (tt : TT) (wi1 : TI) (g1 : TG) (tt1 : TT) (te : TE) (vs vs1 : List Nat) (σ : L2.St) (Q : VK) (W : Nat → Nat → Hp → Prop) : Prop := ∀ i m H, W i m H →
  (J.stop i H ∧ Q (.bl al) H) ∨ (J.go i H ∧ ∃ (mb : Nat) (Nx : Hp → Prop), mb < m ∧ (∀ H', Nx H' → ∃ m', m' ≤ mb ∧ W (i + 1) m' H') ∧ ∀ x H', J.yld i H x H' → g x (wipe σ vs) H' fun σ2 H2 => wipe σ2 vs = wipe σ vs ∧ tt σ2 H2 fun b H3 =>
    if b = true then wi1 σ2 H3 fun J1 H4 => ∃ W1 : Nat → Nat → Hp → Prop, (∃ k, k + mb < m ∧ W1 0 k H4) ∧ ∀ j k H, W1 j k H →
      (J1.stop j H ∧ Nx H) ∨ (J1.go j H ∧ ∃ Nx1 : Hp → Prop, (∀ H', Nx1 H' → ∃ k', k' < k ∧ W1 (j + 1) k' H') ∧ ∀ x H', J1.yld j H x H' → g1 x (wipe σ2 vs1) H' fun σ3 H5 => wipe σ3 vs1 = wipe σ2 vs1 ∧ tt1 σ3 H5 fun b H6 =>
        if b = true then te σ3 H6 fun y H7 => ∃ kk : Bool, y = .bl kk ∧ if kk = al then Nx1 H7 else Q (.bl (!al)) H7 else Nx1 H6)
    else Nx H3)
section
variable {X : Cx} {s3 : Shared} {H3 : Hp} {fp : List Addr} {cenv : Env} {A2 : Around} {a it : Addr} {gi : Nat} {go : Obj} {σ : L2.St} {vs vs1 : List Nat} {al : Bool} {Q : VK} {elt tg iter tg1 iter1 : Expr} {ifs ifs1 : List Expr} {scope : Scope} {gpos : Pos} {J : It} {tn : Nat → Heap → Prop} {g g1 : TG} {tt tt1 : TT} {te : TE} {wi1 : TI} {W : Nat → Nat → Hp → Prop}
/-- the inner loop: over frames fs, that go on where hend says -/
theorem gx2_in {fp1 : List Addr} {it1 : Addr} {tn1 : Nat → Heap → Prop} {J1 : It} {pins : List (Addr × Obj)} {σ8 : L2.St} {fs : List Frame} {mb : Nat} {Nx : Hp → Prop} {W1 : Nat → Nat → Hp → Prop} (hc : X.calm = true) (hco : cenv.scope.isCoroutine = false) (hgo : ∃ nm qn, go = { cls := .type "generator", dict := none, data := .fields #[.int gi 0, nm, qn], slots := #[] } ∧ ∀ h : Heap, h.get? a = some go → h.IsGen a gi)
    (hov : A2.over (.compLoop (.GeneratorExp elt [⟨tg, iter, ifs, 0⟩, ⟨tg1, iter1, ifs1, 0⟩] scope gpos) 1 (.ref it1) .none cenv) fs = A2.deeper cenv) (hsp : splitAtGen fs = none) (hgd : fs.any Frame.guarded = false)
    (T1 : Turn X.prog X.w X.K tg1 J1 fp1 it1 tn1)
    (pg : PG (gxC X s3 H3 cenv fp (A2.deeper cenv) [(a, go)]) tg1 g1) (pt : PTs (gxC X s3 H3 cenv fp (A2.deeper cenv) [(a, go)]) ifs1 tt1) (pe : PE (gxC X s3 H3 cenv fp (A2.deeper cenv) [(a, go)]) elt te)
    (stat1 : ∀ {H' : Hp}, (∀ b ∈ fp1, H' b = none) → ∀ b ∈ fp1, FpOk (gxC X s3 H3 cenv fp (A2.deeper cenv) [(a, go)]) pins H' b)
    (turn1 : ∀ j k H, W1 j k H →
      (J1.stop j H ∧ Nx H) ∨ (J1.go j H ∧ ∃ Nx1 : Hp → Prop, (∀ H', Nx1 H' → ∃ k', k' < k ∧ W1 (j + 1) k' H') ∧ ∀ x H', J1.yld j H x H' → g1 x (wipe σ8 vs1) H' fun σ3 H5 => wipe σ3 vs1 = wipe σ8 vs1 ∧ tt1 σ3 H5 fun b H6 =>
        if b = true then te σ3 H6 fun y H7 => ∃ kk : Bool, y = .bl kk ∧ if kk = al then Nx1 H7 else Q (.bl (!al)) H7 else Nx1 H6))
    (hend : ∀ (n : Nat) (s0 s : Shared) (H : Hp), mb < n → Inv (gxC X s3 H3 cenv fp (A2.deeper cenv) [(a, go)]) pins (wipe σ8 vs1) H s → Nx H →
      Seg (model X.prog X.w) A2 (fun n s0 r s1 => r = .ok .next ∧ gxR X s3 H3 fp a gi al Q n s0 s1) (gxY X s3 H3 fp a gi al Q) n s0 (.compLoop (.GeneratorExp elt [⟨tg, iter, ifs, 0⟩, ⟨tg1, iter1, ifs1, 0⟩] scope gpos) 1 (.ref it1) .none cenv) (leafOf (.ok .next)) fs s) :
    ∀ (k n j : Nat) (s s0 : Shared) (H : Hp), k + mb < n → Inv (gxC X s3 H3 cenv fp (A2.deeper cenv) [(a, go)]) pins (wipe σ8 vs1) H s → tn1 j s.heap → (∀ b ∈ fp1, H b = none) → W1 j k H →
      Seg (model X.prog X.w) A2 (fun n s0 r s1 => r = .ok .next ∧ gxR X s3 H3 fp a gi al Q n s0 s1) (gxY X s3 H3 fp a gi al Q) n s0 (.compLoop (.GeneratorExp elt [⟨tg, iter, ifs, 0⟩, ⟨tg1, iter1, ifs1, 0⟩] scope gpos) 1 (.ref it1) .none cenv)
        ((model X.prog X.w).den (.compLoop (.GeneratorExp elt [⟨tg, iter, ifs, 0⟩, ⟨tg1, iter1, ifs1, 0⟩] scope gpos) 1 (.ref it1) .none cenv)) fs s := by
  intro k
  induction k using Nat.strongRecOn with
  | ind k ih =>
  intro n j s s0 H hkn I st nfp w
  show Seg _ A2 _ _ _ s0 _ ((compTurn (.GeneratorExp elt [⟨tg, iter, ifs, 0⟩, ⟨tg1, iter1, ifs1, 0⟩] scope gpos) 1 (.ref it1) .none cenv).onRaise (fun x => do noteFrame x cenv; theTreesLotGoes x)) fs s
  rw [gxT_in, Sem.onRaise_eq_wrap]
  refine seg_bind_wrap (wpAny_standAt ?_)
  rcases turn1 j k H w with ⟨stop, qq⟩ | ⟨hgo2, Nx1, hNx1, step⟩
  · have td := T1.done (gxC X s3 H3 cenv fp (A2.deeper cenv) [(a, go)]) rfl rfl rfl hc j pins s _ H (fun _ _ => False) I (stat1 nfp) st stop
    refine seg_bind_wrap ?_
    rw [hov]
    refine wpAny_mono td (fun r s6 ⟨hr, I6⟩ => ?_) fun _ _ e => e.elim
    subst hr
    exact hend n s0 s6 H (by omega) I6 qq
  · have ti := T1.item (gxC X s3 H3 cenv fp (A2.deeper cenv) [(a, go)]) rfl rfl rfl hc j pins s _ H (fun _ _ => False) I (stat1 nfp) st hgo2
    refine seg_bind_wrap ?_
    rw [hov]
    refine wpAny_mono ti (fun r s6 ⟨u, hr, h6⟩ => ?_) fun _ _ e => e.elim
    subst hr
    refine seg_bind_wrap ?_
    rw [hov]
    refine wpAny_mono h6 (fun _ s7 ⟨x, H7, I7, r7, y7, st7, n7⟩ => ?_) fun _ _ e => e.elim
    have I7' := I7.pinned (stat1 n7) (T1.obj _ _ st7)
    refine seg_bind_wrap ?_
    rw [hov]
    refine wpAny_mono (pg.run _ s7 _ H7 x u _ I7' r7 (step x H7 y7)) (fun _ s8 ⟨σ9, H8, I8, hw8, q8⟩ => ?_) fun _ _ e => e.elim
    refine seg_bind_wrap ?_
    rw [hov]
    refine wpAny_mono (pt.run _ s8 σ9 H8 _ I8 q8) (fun b s9 ⟨H9, I9, q9⟩ => ?_) fun _ _ e => e.elim
    have fin : ∀ {s' : Shared} {H' : Hp}, Inv (gxC X s3 H3 cenv fp (A2.deeper cenv) [(a, go)]) (pins ++ pinsAt fp1 s7.heap) σ9 H' s' → Nx1 H' → ∃ k', k' < k ∧ ∀ n' s0', k' + mb < n' → Seg (model X.prog X.w) A2 (fun n s0 r s1 => r = .ok .next ∧ gxR X s3 H3 fp a gi al Q n s0 s1) (gxY X s3 H3 fp a gi al Q) n' s0' (.compLoop (.GeneratorExp elt [⟨tg, iter, ifs, 0⟩, ⟨tg1, iter1, ifs1, 0⟩] scope gpos) 1 (.ref it1) .none cenv)
        ((model X.prog X.w).den (.compLoop (.GeneratorExp elt [⟨tg, iter, ifs, 0⟩, ⟨tg1, iter1, ifs1, 0⟩] scope gpos) 1 (.ref it1) .none cenv)) fs s' := fun {s' H'} I' nx => by
      obtain ⟨k', hk, w'⟩ := hNx1 H' nx
      have pin' : ∀ b ∈ fp1, ∀ o, s7.heap.get? b = some o → s'.heap.get? b = some o ∧ H' b = none := fun b hb o e =>
        let z := I'.pin (b, o) (List.mem_append_right _ (List.mem_append_right _ (mem_pinsAt hb e)))
        ⟨z.1, z.2.1⟩
      have hl : (wipe σ8 vs1).length = σ9.length := by rw [← hw8, wipe_length]
      refine ⟨k', hk, fun n' s0' hn => ih k' hk n' (j + 1) s' s0' H' hn ((I'.unpinned (pins := pins)).weak hl (fun j v e => ?_)) (T1.keep _ _ _ st7 fun b hb o e => (pin' b hb o e).1) (fun b hb => ?_) w'⟩
      · rw [← hw8] at e
        exact (wipe_some e).1
      · obtain ⟨o, e, _⟩ := T1.obj _ _ st7 b hb
        exact (pin' b hb o e).2
    cases b with
    | false =>
      simp only [Bool.false_eq_true, if_false] at q9 ⊢
      obtain ⟨k', hk, hs⟩ := fin I9 q9
      exact seg_again rfl (hs n s0 (by omega))
    | true =>
      simp only [if_true] at q9 ⊢
      have hy : ∀ v, yieldOut cenv v = yieldValue v := fun v => by simp only [yieldOut, hco, Bool.false_eq_true, if_false]
      simp only [hy]
      rw [Sem.bind_eq_wrap', Sem.bind_eq_wrap', Sem.wrap_wrap, Sem.wrap_wrap]
      refine seg_wrap ?_
      rw [hov]
      refine wpAny_mono (pe.run _ s9 σ9 H9 _ I9 q9) (fun z s10 ⟨yv, H10, I10, r10, kk, ey, qk⟩ => ?_) fun _ _ e => e.elim
      subst ey
      cases r10
      obtain ⟨n', rfl⟩ : ∃ n', n = n' + 1 := ⟨n - 1, by omega⟩
      refine seg_at (seg_yield hsp rfl hgd ⟨kk, H10, rfl, ?_, fun e => ?_, fun e s' e1 e2 e3 => ?_⟩)
      · exact gx_out hgo I10
      · subst e
        rw [if_neg (by cases al <;> simp)] at qk
        exact qk
      · rw [if_pos e] at qk
        obtain ⟨k', hk, hs⟩ := fin (Inv_regen I10 e1 e2 e3) qk
        exact seg_again rfl (hs n' s' (by omega))
end
end SM

set_option autoImplicit false
set_option Elab.async false
set_option linter.all false
set_option maxRecDepth 100000
set_option maxHeartbeats 4000000
namespace SM
open PySem PySem.Spec PyProof.Rows L2 GenW
section
variable {X : Cx} {s3 : Shared} {H3 : Hp} {fp : List Addr} {cenv : Env} {A2 : Around} {a it : Addr} {gi : Nat} {go : Obj} {σ : L2.St} {vs vs1 : List Nat} {al : Bool} {Q : VK} {elt tg iter tg1 iter1 : Expr} {ifs ifs1 : List Expr} {scope : Scope} {gpos : Pos} {J : It} {tn : Nat → Heap → Prop} {g g1 : TG} {tt tt1 : TT} {te : TE} {wi1 : TI} {W : Nat → Nat → Hp → Prop}
theorem gx_seg2 (hc : X.calm = true) (hco : cenv.scope.isCoroutine = false) (hgo : ∃ nm qn, go = { cls := .type "generator", dict := none, data := .fields #[.int gi 0, nm, qn], slots := #[] } ∧ ∀ h : Heap, h.get? a = some go → h.IsGen a gi)
    (T : Turn X.prog X.w X.K tg J fp it tn) (hv : ∀ i ∈ vs1, i ∈ vs)
    (pg : PG (gxC X s3 H3 cenv fp (A2.deeper cenv) [(a, go)]) tg g) (pt : PTs (gxC X s3 H3 cenv fp (A2.deeper cenv) [(a, go)]) ifs tt)
    (pi1 : PI (gxC X s3 H3 cenv fp (A2.deeper cenv) [(a, go)]) tg1 iter1 wi1) (pg1 : PG (gxC X s3 H3 cenv fp (A2.deeper cenv) [(a, go)]) tg1 g1) (pt1 : PTs (gxC X s3 H3 cenv fp (A2.deeper cenv) [(a, go)]) ifs1 tt1)
    (pe : PE (gxC X s3 H3 cenv fp (A2.deeper cenv) [(a, go)]) elt te) (hs1 : ∀ env x, foldedSetIterable iter1 env x = pure x)
    (hfa : ∀ b ∈ fp, b ≠ a) (turn : GxTurn2 J al g tt wi1 g1 tt1 te vs vs1 σ Q W) :
    ∀ (m n i : Nat) (s s0 : Shared) (H : Hp), m < n → Inv (gxC X s3 H3 cenv fp (A2.deeper cenv) [(a, go)]) [] (wipe σ vs) H s → tn i s.heap → (∀ b ∈ fp, H b = none) → W i m H →
      Seg (model X.prog X.w) A2 (fun n s0 r s1 => r = .ok .next ∧ gxR X s3 H3 fp a gi al Q n s0 s1) (gxY X s3 H3 fp a gi al Q) n s0 (.compLoop (.GeneratorExp elt [⟨tg, iter, ifs, 0⟩, ⟨tg1, iter1, ifs1, 0⟩] scope gpos) 0 (.ref it) .none cenv)
        ((model X.prog X.w).den (.compLoop (.GeneratorExp elt [⟨tg, iter, ifs, 0⟩, ⟨tg1, iter1, ifs1, 0⟩] scope gpos) 0 (.ref it) .none cenv)) [] s := by
  intro m
  induction m using Nat.strongRecOn with
  | ind m ih =>
  intro n i s s0 H hmn I st nfp w
  have hov : A2.over (.compLoop (.GeneratorExp elt [⟨tg, iter, ifs, 0⟩, ⟨tg1, iter1, ifs1, 0⟩] scope gpos) 0 (.ref it) .none cenv) [] = A2.deeper cenv := over_gx
  have stat : ∀ {σ' : L2.St} {H' : Hp} {s' : Shared}, Inv (gxC X s3 H3 cenv fp (A2.deeper cenv) [(a, go)]) [] σ' H' s' → (∀ b ∈ fp, H' b = none) → ∀ b ∈ fp, FpOk (gxC X s3 H3 cenv fp (A2.deeper cenv) [(a, go)]) [] H' b := fun {σ' H' s'} I' hn b hb =>
    ⟨hn b hb, (I'.ok.exf b hb).1, I'.ok.exfs b hb, .inl hb, fun x c e => (I'.ok.exf b hb).2 x c e, fun p hp => by
      have hp : p ∈ [(a, go)] ++ [] := hp
      rw [List.append_nil, List.mem_singleton] at hp
      subst hp
      exact Ne.symm (hfa b hb)⟩
  show Seg _ A2 _ _ _ s0 _ ((compTurn (.GeneratorExp elt [⟨tg, iter, ifs, 0⟩, ⟨tg1, iter1, ifs1, 0⟩] scope gpos) 0 (.ref it) .none cenv).onRaise (leaving cenv)) [] s
  rw [gxT_out, Sem.onRaise_eq_wrap]
  refine seg_bind_wrap (wpAny_standAt ?_)
  rcases turn i m H w with ⟨stop, qq⟩ | ⟨hgo2, mb, Nx, hmb, hNx, step⟩
  · have td := T.done (gxC X s3 H3 cenv fp (A2.deeper cenv) [(a, go)]) rfl rfl rfl hc i [] s _ H (fun _ _ => False) I (stat I nfp) st stop
    refine seg_bind_wrap ?_
    rw [hov]
    refine wpAny_mono td (fun r s6 ⟨hr, I6⟩ => ?_) fun _ _ e => e.elim
    subst hr
    exact seg_end (.ok .next) ⟨rfl, H, gx_out hgo I6, qq⟩
  · have ti := T.item (gxC X s3 H3 cenv fp (A2.deeper cenv) [(a, go)]) rfl rfl rfl hc i [] s _ H (fun _ _ => False) I (stat I nfp) st hgo2
    refine seg_bind_wrap ?_
    rw [hov]
    refine wpAny_mono ti (fun r s6 ⟨u, hr, h6⟩ => ?_) fun _ _ e => e.elim
    subst hr
    refine seg_bind_wrap ?_
    rw [hov]
    refine wpAny_mono h6 (fun _ s7 ⟨x, H7, I7, r7, y7, st7, n7⟩ => ?_) fun _ _ e => e.elim
    have I7' := I7.pinned (stat I7 n7) (T.obj _ _ st7)
    refine seg_bind_wrap ?_
    rw [hov]
    refine wpAny_mono (pg.run _ s7 _ H7 x u _ I7' r7 (step x H7 y7)) (fun _ s8 ⟨σ8, H8, I8, hw8, q8⟩ => ?_) fun _ _ e => e.elim
    refine seg_bind_wrap ?_
    rw [hov]
    refine wpAny_mono (pt.run _ s8 σ8 H8 _ I8 q8) (fun b s9 ⟨H9, I9, q9⟩ => ?_) fun _ _ e => e.elim
    have fin : ∀ {σ9 : L2.St} {s' : Shared} {H' : Hp}, Inv (gxC X s3 H3 cenv fp (A2.deeper cenv) [(a, go)]) ([] ++ pinsAt fp s7.heap) σ9 H' s' → (wipe σ vs).length = σ9.length → (∀ (j : Nat) v, (wipe σ vs)[j]? = some (some v) → σ9[j]? = some (some v)) → Nx H' → ∀ n' s0', mb < n' → Seg (model X.prog X.w) A2 (fun n s0 r s1 => r = .ok .next ∧ gxR X s3 H3 fp a gi al Q n s0 s1) (gxY X s3 H3 fp a gi al Q) n' s0' (.compLoop (.GeneratorExp elt [⟨tg, iter, ifs, 0⟩, ⟨tg1, iter1, ifs1, 0⟩] scope gpos) 0 (.ref it) .none cenv)
        ((model X.prog X.w).den (.compLoop (.GeneratorExp elt [⟨tg, iter, ifs, 0⟩, ⟨tg1, iter1, ifs1, 0⟩] scope gpos) 0 (.ref it) .none cenv)) [] s' := fun {σ9 s' H'} I' hl hk nx n' s0' hn => by
      obtain ⟨m', hm, w'⟩ := hNx H' nx
      have pin' : ∀ b ∈ fp, ∀ o, s7.heap.get? b = some o → s'.heap.get? b = some o ∧ H' b = none := fun b hb o e =>
        let z := I'.pin (b, o) (List.mem_append_right _ (List.mem_append_right _ (mem_pinsAt hb e)))
        ⟨z.1, z.2.1⟩
      refine ih m' (by omega) n' (i + 1) s' s0' H' (by omega) ((I'.unpinned (pins := [])).weak hl hk) (T.keep _ _ _ st7 fun b hb o e => (pin' b hb o e).1) (fun b hb => ?_) w'
      obtain ⟨o, e, _⟩ := T.obj _ _ st7 b hb
      exact (pin' b hb o e).2
    have hl8 : (wipe σ vs).length = σ8.length := by rw [← hw8, wipe_length]
    have hk8 : ∀ (j : Nat) v, (wipe σ vs)[j]? = some (some v) → σ8[j]? = some (some v) := fun j v e => by
      rw [← hw8] at e
      exact (wipe_some e).1
    have hk9 : ∀ (j : Nat) v, (wipe σ vs)[j]? = some (some v) → (wipe σ8 vs1)[j]? = some (some v) := fun j v e => by
      rw [← hw8] at e
      obtain ⟨e1, e2⟩ := wipe_some e
      rw [wipe_out fun z => e2 (hv j z)]
      exact e1
    cases b with
    | false =>
      simp only [Bool.false_eq_true, if_false] at q9 ⊢
      exact seg_again rfl (fin I9 hl8 hk8 q9 n s0 (by omega))
    | true =>
      simp only [if_true] at q9 ⊢
      refine seg_bind_wrap ?_
      rw [hov]
      refine wpAny_mono (pi1.run _ s9 σ8 H9 _ I9 q9) (fun xv s10 hx => ?_) fun _ _ e => e.elim
      refine seg_bind_wrap (wpAny_standAt ?_)
      refine seg_bind_wrap (wpAny_of_eq (hs1 _ xv) ?_)
      refine seg_bind_wrap (wpAny_holding ?_)
      rw [hov]
      refine wpAny_mono hx (fun itv s11 h11 => ?_) fun _ _ e => e.elim
      obtain ⟨it1, fp1, tn1, J1, H11, e1, I11, T1, st11, f11, W1, ⟨k1, hk1, w1⟩, turn1⟩ := h11
      subst e1
      have stat1 : ∀ {H' : Hp}, (∀ b ∈ fp1, H' b = none) → ∀ b ∈ fp1, FpOk (gxC X s3 H3 cenv fp (A2.deeper cenv) [(a, go)]) ([] ++ pinsAt fp s7.heap) H' b := fun hn b hb => ⟨hn b hb, (f11 b hb).2⟩
      refine seg_call fun p => ?_
      have hov1 : ∀ {c1 : Code} {k : Result → Sem PySem.Fin} {l kp : List Value}, c1.weight = 0 → c1.cUnits = 0 → A2.over c1 (.ret k none false l (.compLoop (.GeneratorExp elt [⟨tg, iter, ifs, 0⟩, ⟨tg1, iter1, ifs1, 0⟩] scope gpos) 0 (.ref it) .none cenv) p kp :: []) = A2.deeper cenv := fun hw hu => (over_loop hw hu).trans hov
      have start : ∀ {fs : List Frame}, A2.over (.compStart (.GeneratorExp elt [⟨tg, iter, ifs, 0⟩, ⟨tg1, iter1, ifs1, 0⟩] scope gpos) 1 (.ref it1) .none cenv) fs = A2.deeper cenv →
          Seg (model X.prog X.w) A2 (fun n s0 r s1 => r = .ok .next ∧ gxR X s3 H3 fp a gi al Q n s0 s1) (gxY X s3 H3 fp a gi al Q) n s0 (.compLoop (.GeneratorExp elt [⟨tg, iter, ifs, 0⟩, ⟨tg1, iter1, ifs1, 0⟩] scope gpos) 1 (.ref it1) .none cenv)
            ((model X.prog X.w).den (.compLoop (.GeneratorExp elt [⟨tg, iter, ifs, 0⟩, ⟨tg1, iter1, ifs1, 0⟩] scope gpos) 1 (.ref it1) .none cenv)) fs s11 →
          Seg (model X.prog X.w) A2 (fun n s0 r s1 => r = .ok .next ∧ gxR X s3 H3 fp a gi al Q n s0 s1) (gxY X s3 H3 fp a gi al Q) n s0 (.compStart (.GeneratorExp elt [⟨tg, iter, ifs, 0⟩, ⟨tg1, iter1, ifs1, 0⟩] scope gpos) 1 (.ref it1) .none cenv)
            ((model X.prog X.w).den (.compStart (.GeneratorExp elt [⟨tg, iter, ifs, 0⟩, ⟨tg1, iter1, ifs1, 0⟩] scope gpos) 1 (.ref it1) .none cenv)) fs s11 := fun {fs} ho loop => by
        show Seg _ A2 _ _ _ s0 _ ((compStart (.GeneratorExp elt [⟨tg, iter, ifs, 0⟩, ⟨tg1, iter1, ifs1, 0⟩] scope gpos) 1 (.ref it1) .none cenv).onRaise (fun x => do noteFrame x cenv; standAt theWindowsPlace)) fs s11
        unfold compStart
        rw [Sem.onRaise_eq_wrap]
        show Seg _ A2 _ _ _ s0 _ ((ask >>= _).wrap _ _ _ _) fs s11
        refine seg_bind_wrap (wpAny_askSetting ?_)
        split
        · exact seg_again rfl loop
        · first
            | exact seg_bind_wrap (wpAny_rule (seg_bind_wrap (wpAny_standAt (seg_bind_wrap (T1.self _ 0 s11 _ _ st11 (seg_again rfl loop))))))
            | (refine seg_bind_wrap (wpAny_rule ?_); show Seg _ A2 _ _ _ s0 _ ((standAt iter1.pos >>= _).wrap _ _ _ _) fs s11; exact seg_bind_wrap (wpAny_standAt (seg_bind_wrap (T1.self _ 0 s11 _ _ st11 (seg_again rfl loop)))))
      refine start (hov1 (by first | rfl | decide) (by first | rfl | decide)) ?_
      refine gx2_in (mb := mb) (Nx := Nx) (vs1 := vs1) (σ8 := σ8) hc hco hgo (hov1 (by first | rfl | decide) (by first | rfl | decide)) (by rfl) (by rfl) T1 pg1 pt1 pe stat1 turn1 (fun n' s0' s' H' hn I' nx => ?_) k1 n 0 s11 s0 H11 (by omega) (I11.weak (wipe_length _ _) (fun j v e => (wipe_some e).1)) st11 (fun b hb => (f11 b hb).1) w1
      refine seg_leaf (.ok .next) ?_
      exact seg_again rfl (fin I' (hl8.trans (wipe_length σ8 vs1).symm) hk9 nx n' s0' (by omega))
end
end SM

set_option autoImplicit false
set_option Elab.async false
set_option linter.all false
set_option maxRecDepth 100000
set_option maxHeartbeats 4000000
namespace SM
open PySem PySem.Spec PyProof.Rows L2 GenW
def tGx2 (al : Bool) (P : Addr) (wi : TI) (g : Value → TG) (tt : Value → TT) (wi1 : Value → TI) (g1 : Value → TG) (tt1 : Value → TT) (te : Value → TE) (vs vs1 : List Nat) : TE := fun σ H Q => wi σ H fun J H1 => GxR.TabG H1 P ∧ ∀ H2, GxR.Tabbed P H1 H2 → ∀ code, ∃ W : Nat → Nat → Hp → Prop, (∃ m, W 0 m H2) ∧ GxTurn2 J al (g code) (tt code) (wi1 code) (g1 code) (tt1 code) (te code) vs vs1 σ Q W
section
variable {X : Cx} {pins : List (Addr × Obj)} {σ : L2.St} {H : Hp} {s : Shared}
theorem gx_made2 {c P : Addr} {elt tg iter tg1 iter1 : Expr} {ifs ifs1 : List Expr} {scope : Scope} {own : List (Str × Nat)} {gpos : Pos} {al : Bool} {Q : VK} {vs1 : List Nat} {wi : TI} {wi1 : Value → TI} {g g1 : Value → TG} {tt tt1 : Value → TT} {te : Value → TE} {Q' : Value → Shared → Prop}
    (hc : X.calm = true) (hN : X.N.Nodup) (hr : X.A.depth < recursionLimit) (TB : GxR.TabB X.base X.mg c P) (hcode : X.env.code = .ref c) (ok : GxOk X.N X.env.scope scope own) (hv : ∀ i ∈ vs1, i ∈ own.map (·.2)) (hi : PI X tg iter wi)
    (hgte : ∀ (s : Shared) (H : Hp) (cl : List (Str × Addr)) (C : Addr) (code : Value) (fp : List Addr) (pn : List (Addr × Obj)), PG (gxC X s H (genEnv scope cl C code builtinsNs X.env) fp (X.A.in1.in1.deeper (genEnv scope cl C code builtinsNs X.env)) pn) tg (g code) ∧
      PTs (gxC X s H (genEnv scope cl C code builtinsNs X.env) fp (X.A.in1.in1.deeper (genEnv scope cl C code builtinsNs X.env)) pn) ifs (tt code) ∧ PI (gxC X s H (genEnv scope cl C code builtinsNs X.env) fp (X.A.in1.in1.deeper (genEnv scope cl C code builtinsNs X.env)) pn) tg1 iter1 (wi1 code) ∧ PG (gxC X s H (genEnv scope cl C code builtinsNs X.env) fp (X.A.in1.in1.deeper (genEnv scope cl C code builtinsNs X.env)) pn) tg1 (g1 code) ∧ PTs (gxC X s H (genEnv scope cl C code builtinsNs X.env) fp (X.A.in1.in1.deeper (genEnv scope cl C code builtinsNs X.env)) pn) ifs1 (tt1 code) ∧ PE (gxC X s H (genEnv scope cl C code builtinsNs X.env) fp (X.A.in1.in1.deeper (genEnv scope cl C code builtinsNs X.env)) pn) elt (te code))
    (hs : ∀ v, genFold iter X.env v = pure v) (hs1 : ∀ env x, foldedSetIterable iter1 env x = pure x) (I : Inv X pins σ H s) (h : tGx2 al P wi g tt wi1 g1 tt1 te (own.map (·.2)) vs1 σ H Q)
    (hQ : ∀ s3 H3 fp a gi m s5, Inv X pins σ H3 s3 → (∀ b ∈ fp, FpOk X pins H3 b) → GxZ X s3 H3 fp a gi al Q m s5 → Q' (.ref a) s5) :
    wpAny (model X.prog X.w) X.A (eval (.GeneratorExp elt [⟨tg, iter, ifs, 0⟩, ⟨tg1, iter1, ifs1, 0⟩] scope gpos) X.env) Q' X.xe s := by
  have hfree : ∀ y ∈ scope.names, y.2 = .free → ∃ c, X.env.cells.lookup y.1 = some c := fun y hy e => by
    rcases ok.free y hy e with k | k
    · exact I.ok.has _ (.inl k)
    · exact I.ok.has _ (.inr k)
  refine gx2_make ok.co (closure_ok hfree) ok.nocell ok.dot ok.kind hr (thn (hi.run pins s σ H _ I h) fun xv s1 hx => thn hx fun itv s2 h2 => ?_) hs
  obtain ⟨it, fp, tn, J, H1, rfl, I1, T, st1, f1, ⟨ps, hP, ht⟩, q⟩ := h2
  refine ⟨I1.nolimit, ?_⟩
  have hPs : s2.heap.get? P = some { cls := .none, data := .fields ps } := I1.hok P _ hP
  have hPlt : P < s2.heap.objs.size := Heap.lt_size hPs
  have cd : PySem.W.CodeHd s2.heap c P := TB.code.keeps I1.bk
  have fpP : ∀ b ∈ fp, b ≠ P := fun b hb z => by
    have := (f1 b hb).1
    rw [z, hP] at this; cases this
  have cont : ∀ (code : Value) (h3 : Heap) (tk : Nat) (ps' : Array Value), Heap.ExtBut P s2.heap h3 → s2.heap.objs.size ≤ h3.objs.size → h3.get? P = some { cls := .none, data := .fields ps' } → (∃ more, ps' = ps ++ more) → TriplesOk ps'.toList →
      wpAny (model X.prog X.w) X.A (builtinsFor X.env.globals X.env.builtins) (fun bi s₄ => ∀ h', h'.Ns s₄.heap.objs.size (fun y => if y = ".0" then some (.ref it) else none) → Heap.SameBut s₄.heap.objs.size (s₄.heap.push { cls := .type "frame", data := .dict #[] }) h' →
          Q' (.ref h'.objs.size) { s₄ with
            gens := s₄.gens.push (.fresh (.compStart (.GeneratorExp elt [⟨tg, iter, ifs, 0⟩, ⟨tg1, iter1, ifs1, 0⟩] scope gpos) 0 (.ref it) .none (genEnv scope (cloFrom X.env.cells scope.names []) s₄.heap.objs.size code bi X.env))),
            toks := s₄.toks + 1 + 1 + 1,
            heap := h'.push { cls := .type "generator", data := .fields #[.int s₄.gens.size 0, .str "<genexpr>" (s₄.toks + 1), .str (X.env.qual ++ "<genexpr>") (s₄.toks + 1 + 1)] } }) X.xe { s2 with heap := h3, toks := tk } := by
    intro code h3 tk ps' hx hsz hP3 hmore ht3
    obtain ⟨bm, ob, e1, e2, e3, e4, e5, e6, e7, e8⟩ := TB.bm
    have keep3 : ∀ b u, b ≠ P → s2.heap.get? b = some u → h3.get? b = some u := fun b u hb e => hx b u hb e
    refine wpAny_builtinsFor (m := X.mg) (by rw [I1.ok.glob]; exact (I1.mod.glob.keeps I1.bk).extBut hx TB.gP) e1 e2 (keep3 _ _ e4 (I1.bk _ _ e5)) e6 e7 e8 ?_
    obtain ⟨more, rfl⟩ := hmore
    have I3 := GxR.inv_tab (more := more) (h' := h3) (g' := s2.gens) (d' := s2.drawn) (t' := tk) I1 hP keep3 hP3 I1.bare
    obtain ⟨W, ⟨m0, w0⟩, turn⟩ := q (upd H1 P (.tbl (ps ++ more))) ⟨⟨_, upd_same, ht3⟩, fun b hb => upd_ne hb⟩ code
    have f3 : ∀ b ∈ fp, FpOk X pins (upd H1 P (.tbl (ps ++ more))) b := fun b hb => ⟨by rw [upd_ne (fpP b hb)]; exact (f1 b hb).1, (f1 b hb).2⟩
    have st3 : tn 0 h3 := T.keep _ _ _ st1 fun b hb o e => keep3 b o (fpP b hb) e
    have fl : ∀ b ∈ fp, b < h3.objs.size := fun b hb => by
      obtain ⟨o, e, _⟩ := T.obj _ _ st3 b hb
      exact Heap.lt_size e
    intro h' hn' hs'
    have hsz' : h'.objs.size = h3.objs.size + 1 := by rw [hs'.1, Heap.size_push]
    have keep' : ∀ b o, h3.get? b = some o → h'.get? b = some o := fun b o e => hs'.extBut b o (Nat.ne_of_lt (Heap.lt_size e)) (Heap.get?_push_of_some _ e)
    generalize hgob : ({ cls := .type "generator", data := .fields #[.int s2.gens.size 0, .str "<genexpr>" (tk + 1), .str (X.env.qual ++ "<genexpr>") (tk + 1 + 1)] } : Obj) = gob
    have hkgo : ∃ nm qn, gob = { cls := .type "generator", dict := none, data := .fields #[.int s2.gens.size 0, nm, qn], slots := #[] } ∧ ∀ h : Heap, h.get? h'.objs.size = some gob → h.IsGen h'.objs.size s2.gens.size :=
      ⟨_, _, hgob.symm, fun h e => by rw [← hgob] at e; exact ⟨_, _, _, e, rfl, rfl, rfl⟩⟩
    have hb5 : AllBare (s2.gens.push (.fresh (.compStart (.GeneratorExp elt [⟨tg, iter, ifs, 0⟩, ⟨tg1, iter1, ifs1, 0⟩] scope gpos) 0 (.ref it) .none (genEnv scope (cloFrom X.env.cells scope.names []) h3.objs.size code builtinsNs X.env)))) := I1.bare.push rfl
    have I5 := gx_start (scope := scope) (own := own) (fp := fp) (code := code) (A' := X.A.in1.in1.deeper (genEnv scope (cloFrom X.env.cells scope.names []) h3.objs.size code builtinsNs X.env))
      (h5 := h'.push gob) (tk := tk + 1 + 1 + 1) (go := gob) (a := h'.objs.size) I3 ok hN (fun b hb => ⟨f3 b hb, fl b hb⟩) (Around.frames_deeper I.ok.frames) (fun hc => I.ok.hd hc) (fun b o e => Heap.get?_push_of_some _ (keep' b o e)) (hn'.push _) hb5 (by rw [← hgob]; exact Heap.get?_push_size _ rfl) (by rw [hsz']; exact Nat.lt_succ_self _) (fun v z => by rw [← hgob] at z; cases z)
    refine hQ _ _ fp h'.objs.size s2.gens.size (m0 + 1) _ I3 f3 ⟨(by obtain ⟨_, _, _, hk9⟩ := hkgo; exact hk9 _ (by rw [← hgob]; exact Heap.get?_push_size _ rfl)), I5.nolimit, hb5, _, Array.getElem?_push_size .., rfl, ?_⟩
    obtain ⟨pg, pt, pi1, pg1, pt1, pe⟩ := hgte { s2 with heap := h3, toks := tk } (upd H1 P (.tbl (ps ++ more))) (cloFrom X.env.cells scope.names []) h3.objs.size code fp [(h'.objs.size, gob)]
    have hnf : ∀ b ∈ fp, (upd H1 P (.tbl (ps ++ more))) b = none := fun b hb => (f3 b hb).1
    have st5 : tn 0 (h'.push gob) := T.keep _ _ _ st3 fun b _ o e => Heap.get?_push_of_some _ (keep' b o e)
    have loop := gx_seg2 (A2 := X.A.in1.in1) (al := al) (Q := Q) (gpos := gpos) (scope := scope) (iter := iter) (it := it) (gi := s2.gens.size) hc (show (genEnv scope (cloFrom X.env.cells scope.names []) h3.objs.size code builtinsNs X.env).scope.isCoroutine = false from ok.co) hkgo T hv pg pt pi1 pg1 pt1 pe hs1 (fun b hb z => by have q9 := fl b hb; rw [z, hsz'] at q9; exact absurd q9 (Nat.not_lt.mpr (Nat.le_succ _))) turn
    generalize hss : Shared.setGen _ s2.gens.size .running = ss
    have I6 : Inv _ [] (wipe σ (own.map (·.2))) (upd H1 P (.tbl (ps ++ more))) ss := Inv_regen I5 (by rw [← hss]; rfl) (by rw [← hss]; rfl) (by rw [← hss]; exact allBare_setGen hb5 rfl)
    have st6 : tn 0 ss.heap := by rw [← hss]; exact st5
    have loop := loop m0 (m0 + 1) 0 ss ss _ (Nat.lt_succ_self _) I6 st6 hnf w0
    show Seg _ X.A.in1.in1 _ _ _ ss _ ((compStart (.GeneratorExp elt [⟨tg, iter, ifs, 0⟩, ⟨tg1, iter1, ifs1, 0⟩] scope gpos) 0 (.ref it) .none (genEnv scope (cloFrom X.env.cells scope.names []) h3.objs.size code builtinsNs X.env)).onRaise (leaving _)) [] ss
    unfold compStart
    rw [Sem.onRaise_eq_wrap]
    show Seg _ X.A.in1.in1 _ _ _ ss _ ((ask >>= _).wrap _ _ _ _) [] ss
    refine seg_bind_wrap (wpAny_askSetting ?_)
    split
    · exact seg_again rfl loop
    · first
        | exact seg_bind_wrap (wpAny_rule (seg_bind_wrap (wpAny_standAt (seg_bind_wrap (T.self _ 0 ss _ _ st6 (seg_again rfl loop))))))
        | (refine seg_bind_wrap (wpAny_rule ?_); show Seg _ X.A.in1.in1 _ _ _ ss _ ((standAt iter.pos >>= _).wrap _ _ _ _) [] ss; exact seg_bind_wrap (wpAny_standAt (seg_bind_wrap (T.self _ 0 ss _ _ st6 (seg_again rfl loop)))))
  cases hf : codeAmong gpos ps.toList with
  | none =>
    refine wpAny_genexprCodeX hcode (cd.code hPs ht) (cd.tab hPs) hf fun c' h' tk hx hge hlt hco' _ htab' _ => ?_
    obtain ⟨o1, vs, f1', tf, fl, tg', inF, tx, tt', op, _, _, _, _, _, _, _, _, _, htr, _⟩ := hco'
    exact cont _ h' tk _ hx (Nat.le_trans hge (Nat.le_of_lt hlt)) htab'.2 ⟨_, rfl⟩ htr
  | some cv =>
    refine wpAny_genexprCode_hit hcode (cd.code hPs ht) hf ?_
    exact cont cv s2.heap s2.toks ps (Heap.ExtBut.refl _ _) (Nat.le_refl _) hPs ⟨#[], by simp⟩ ht
end

section
variable {X : Cx}
theorem pe_gxAll2 {c P : Addr} {elt tg iter tg1 iter1 : Expr} {ifs ifs1 : List Expr} {scope : Scope} {own : List (Str × Nat)} {p pos gpos : Pos} {vs1 : List Nat} {wi : TI} {wi1 : Value → TI} {g g1 : Value → TG} {tt tt1 : Value → TT} {te : Value → TE} {k : Nat}
    (hc : X.calm = true) (hN : X.N.Nodup) (hr : Room k X.A) (hg : Gl X "all") (hm : X.mg "all" = none) (TB : GxR.TabB X.base X.mg c P) (hcode : X.env.code = .ref c) (ok : GxOk X.N X.env.scope scope own) (hv : ∀ i ∈ vs1, i ∈ own.map (·.2)) (hi : PI X tg iter wi)
    (hgte : ∀ (s : Shared) (H : Hp) (cl : List (Str × Addr)) (C : Addr) (code : Value) (fp : List Addr) (pn : List (Addr × Obj)), PG (gxC X s H (genEnv scope cl C code builtinsNs X.env) fp (X.A.in1.in1.deeper (genEnv scope cl C code builtinsNs X.env)) pn) tg (g code) ∧
      PTs (gxC X s H (genEnv scope cl C code builtinsNs X.env) fp (X.A.in1.in1.deeper (genEnv scope cl C code builtinsNs X.env)) pn) ifs (tt code) ∧ PI (gxC X s H (genEnv scope cl C code builtinsNs X.env) fp (X.A.in1.in1.deeper (genEnv scope cl C code builtinsNs X.env)) pn) tg1 iter1 (wi1 code) ∧ PG (gxC X s H (genEnv scope cl C code builtinsNs X.env) fp (X.A.in1.in1.deeper (genEnv scope cl C code builtinsNs X.env)) pn) tg1 (g1 code) ∧ PTs (gxC X s H (genEnv scope cl C code builtinsNs X.env) fp (X.A.in1.in1.deeper (genEnv scope cl C code builtinsNs X.env)) pn) ifs1 (tt1 code) ∧ PE (gxC X s H (genEnv scope cl C code builtinsNs X.env) fp (X.A.in1.in1.deeper (genEnv scope cl C code builtinsNs X.env)) pn) elt (te code))
    (hs : ∀ v, genFold iter X.env v = pure v) (hs1 : ∀ env x, foldedSetIterable iter1 env x = pure x) (he : starEach [.GeneratorExp elt [⟨tg, iter, ifs, 0⟩, ⟨tg1, iter1, ifs1, 0⟩] scope gpos] X.env = (false, eval (.GeneratorExp elt [⟨tg, iter, ifs, 0⟩, ⟨tg1, iter1, ifs1, 0⟩] scope gpos) X.env) :: starEach [] X.env) :
    PE X (.Call (.Name "all" p) [.GeneratorExp elt [⟨tg, iter, ifs, 0⟩, ⟨tg1, iter1, ifs1, 0⟩] scope gpos] [] pos) (tGx2 true P wi g tt wi1 g1 tt1 te (own.map (·.2)) vs1) := by
  refine ⟨fun pins s σ H Q I h => ?_⟩
  refine wpAny_Call_Name_kw (ld_blt I hg hm boot_all ?_)
  refine PyProof.Rows.callWith_builtin1 ?_ he (by rfl)
  rw [he]
  show wpAny _ _ (spliced ((false, eval (.GeneratorExp elt [⟨tg, iter, ifs, 0⟩, ⟨tg1, iter1, ifs1, 0⟩] scope gpos) X.env) :: backTo pos (starEach [] X.env))) _ _ s
  have hd : X.A.depth < recursionLimit := by have := hr.dp; omega
  refine Calls.spliced_cons (gx_made2 (al := true) (Q := Q) hc hN hd TB hcode ok hv hi hgte hs hs1 I h fun s3 H3 fp a gi m s5 I3 f3 Z => ?_)
  refine Calls.spliced_nil ?_
  refine call_allI Z.1 (all_loopI (GxZ X s3 H3 fp a gi true Q) (fun m s hz => wpAny_mono (gx_step hr.hd hd I3 f3 m s hz) (fun o s' q => ?_) fun _ _ e => e) m s5 Z)
  cases o with
  | none => exact q
  | some v => exact q
theorem pe_gxAny2 {c P : Addr} {elt tg iter tg1 iter1 : Expr} {ifs ifs1 : List Expr} {scope : Scope} {own : List (Str × Nat)} {p pos gpos : Pos} {vs1 : List Nat} {wi : TI} {wi1 : Value → TI} {g g1 : Value → TG} {tt tt1 : Value → TT} {te : Value → TE} {k : Nat}
    (hc : X.calm = true) (hN : X.N.Nodup) (hr : Room k X.A) (hg : Gl X "any") (hm : X.mg "any" = none) (TB : GxR.TabB X.base X.mg c P) (hcode : X.env.code = .ref c) (ok : GxOk X.N X.env.scope scope own) (hv : ∀ i ∈ vs1, i ∈ own.map (·.2)) (hi : PI X tg iter wi)
    (hgte : ∀ (s : Shared) (H : Hp) (cl : List (Str × Addr)) (C : Addr) (code : Value) (fp : List Addr) (pn : List (Addr × Obj)), PG (gxC X s H (genEnv scope cl C code builtinsNs X.env) fp (X.A.in1.in1.deeper (genEnv scope cl C code builtinsNs X.env)) pn) tg (g code) ∧
      PTs (gxC X s H (genEnv scope cl C code builtinsNs X.env) fp (X.A.in1.in1.deeper (genEnv scope cl C code builtinsNs X.env)) pn) ifs (tt code) ∧ PI (gxC X s H (genEnv scope cl C code builtinsNs X.env) fp (X.A.in1.in1.deeper (genEnv scope cl C code builtinsNs X.env)) pn) tg1 iter1 (wi1 code) ∧ PG (gxC X s H (genEnv scope cl C code builtinsNs X.env) fp (X.A.in1.in1.deeper (genEnv scope cl C code builtinsNs X.env)) pn) tg1 (g1 code) ∧ PTs (gxC X s H (genEnv scope cl C code builtinsNs X.env) fp (X.A.in1.in1.deeper (genEnv scope cl C code builtinsNs X.env)) pn) ifs1 (tt1 code) ∧ PE (gxC X s H (genEnv scope cl C code builtinsNs X.env) fp (X.A.in1.in1.deeper (genEnv scope cl C code builtinsNs X.env)) pn) elt (te code))
    (hs : ∀ v, genFold iter X.env v = pure v) (hs1 : ∀ env x, foldedSetIterable iter1 env x = pure x) (he : starEach [.GeneratorExp elt [⟨tg, iter, ifs, 0⟩, ⟨tg1, iter1, ifs1, 0⟩] scope gpos] X.env = (false, eval (.GeneratorExp elt [⟨tg, iter, ifs, 0⟩, ⟨tg1, iter1, ifs1, 0⟩] scope gpos) X.env) :: starEach [] X.env) :
    PE X (.Call (.Name "any" p) [.GeneratorExp elt [⟨tg, iter, ifs, 0⟩, ⟨tg1, iter1, ifs1, 0⟩] scope gpos] [] pos) (tGx2 false P wi g tt wi1 g1 tt1 te (own.map (·.2)) vs1) := by
  refine ⟨fun pins s σ H Q I h => ?_⟩
  refine wpAny_Call_Name_kw (ld_blt I hg hm boot_any ?_)
  refine PyProof.Rows.callWith_builtin1 ?_ he (by rfl)
  rw [he]
  show wpAny _ _ (spliced ((false, eval (.GeneratorExp elt [⟨tg, iter, ifs, 0⟩, ⟨tg1, iter1, ifs1, 0⟩] scope gpos) X.env) :: backTo pos (starEach [] X.env))) _ _ s
  have hd : X.A.depth < recursionLimit := by have := hr.dp; omega
  refine Calls.spliced_cons (gx_made2 (al := false) (Q := Q) hc hN hd TB hcode ok hv hi hgte hs hs1 I h fun s3 H3 fp a gi m s5 I3 f3 Z => ?_)
  refine Calls.spliced_nil ?_
  refine call_anyI Z.1 (any_loopI (GxZ X s3 H3 fp a gi false Q) (fun m s hz => wpAny_mono (gx_step hr.hd hd I3 f3 m s hz) (fun o s' q => ?_) fun _ _ e => e) m s5 Z)
  cases o with
  | none => exact q
  | some v => exact q
end

end SM

set_option autoImplicit false
set_option Elab.async false
set_option linter.all false
set_option maxRecDepth 100000
set_option maxHeartbeats 4000000
namespace SM
open PySem PySem.Spec PyProof.Rows L2 GenW
/-! ### two clauses over typed data -/
/-- a turn of the outer clause: the inner items, and what each gives -/
def CB2 {β κ : Type} (S : Stat) (γ : Gm) (tg : Expr) (ifs : List Expr) (tg1 iter1 : Expr) (ifs1 : List Expr) (elt : Expr) (vs vs1 : List Nat) (d : PyData) (encB : β → PyData) (encC : κ → PyData) (ys : List β) (f : β → Option (Option κ)) : Prop :=
  ∃ γ2 is k, GJ S γ tg d γ2 is ∧ (∀ i ∈ is, i ∈ vs) ∧ TsJ S γ2 ifs k ∧ (k = false → ys = []) ∧ (k = true → IX S γ2 tg1 iter1 (ys.map encB) ∧ ∀ y ∈ ys, CBO S (wipeG γ2 vs1) tg1 ifs1 elt vs1 (encB y) encC (f y))
def quantM2 {α β : Type} (al : Bool) (gi : α → Option (List β)) (f : α → β → Option (Option Bool)) : List α → Option Bool
  | [] => some al
  | x :: xs => (gi x).bind fun ys => (quantM al (f x) ys).bind fun r => if r = (!al) then some (!al) else quantM2 al gi f xs
def cost2 {α β : Type} (gi : α → Option (List β)) (l : List α) : Nat := (l.map fun x => match gi x with | some ys => ys.length + 1 | none => 1).sum
/-- an item that a loop hands out -/
theorem yd_take {S : Stat} {γ : Gm} {σ : L2.St} {H H' F F1 : Hp} {x : V} {items : List PyData} {i : Nat} {d : PyData} (a : At S γ σ H F) (le : Le F1 F) (hd : items[i]? = some d) (hy : YD S.K F1 items i H x H') : ∃ F', At S γ σ H' F' ∧ Ex2 S.tabs H F H' F' ∧ Dp S.K F' x d := by
  obtain ⟨d', hd', hyd⟩ := hy
  rw [hd] at hd'
  obtain rfl := Option.some.inj hd'
  rcases hyd with ⟨e1, dx⟩ | ⟨T, ys, ds, hT, e1, e2, e3, dx⟩
  · subst e1
    exact ⟨F, a, Ex2.refl _ _, dx.zmono le⟩
  · subst e1; subst e2
    have x5 : Ex2 S.tabs H F (upd H T (.tup ys)) (upd F T (.tup ys)) := ex_new a.hf hT
    refine ⟨_, a.ex x5 (a.hf.new hT fun _ z => by cases z), x5, ?_⟩
    rw [e3]
    exact .tup (SqT.of upd_same) (dx.zmono (le.trans x5.f))
section
variable {S : Stat} {γ : Gm} {σ : L2.St} {H F : Hp} {tg iter elt tg1 iter1 : Expr} {ifs ifs1 : List Expr} {scope : Scope} {own : List (Str × Nat)} {vs1 : List Nat} {p pos gpos : Pos} {τ υ : Type} {encA : τ → PyData} {encB : υ → PyData} {xs : List τ} {gi : τ → Option (List υ)} {f : τ → υ → Option (Option Bool)} {k al : Bool} {c P : Addr}
theorem gx_read2 (hi : IX S γ tg iter (xs.map encA)) (hP : P ∈ S.tabs.G) (hb : ∀ code, ∀ x ∈ xs, ∀ ys, gi x = some ys → CB2 (S.gx scope code) (wipeG γ (own.map (·.2))) tg ifs tg1 iter1 ifs1 elt (own.map (·.2)) vs1 (encA x) encB eB ys (f x)) (hr : quantM2 al gi f xs = some k) (at_ : At S γ σ H F) {Q : VK}
    (q : ∀ H' F', At S γ σ H' F' → Ex2 S.tabs H F H' F' → Q (.bl k) H') :
    tGx2 al P (wI S tg iter) (fun code => wG (S.gx scope code) tg) (fun code => tTs (S.gx scope code) ifs) (fun code => wI (S.gx scope code) tg1 iter1) (fun code => wG (S.gx scope code) tg1) (fun code => tTs (S.gx scope code) ifs1) (fun code => wE (S.gx scope code) elt) (own.map (·.2)) vs1 σ H Q := by
  refine hi σ H F at_ _ fun J H1 F1 a1 x1 hz w => ⟨a1.tabs.1 P hP, fun H2 t code => ?_⟩
  have e12 : Ext S.tabs H1 H2 := ext_tabbed (a1.tabs.1 P hP) t (S.tabs.dG P hP)
  have x12 : Ex2 S.tabs H1 F1 H2 F1 := ⟨e12, Le.refl F1, fun a o h n => by rw [n] at h; cases h⟩
  have hf2 : HF H2 F1 := ⟨a1.hf.ext e12, a1.hf.ntb⟩
  refine ⟨fun i m H3 => ∃ F3, At S γ σ H3 F3 ∧ Ex2 S.tabs H1 F1 H3 F3 ∧ quantM2 al gi f (xs.drop i) = some k ∧ m = cost2 gi (xs.drop i) ∧ i ≤ xs.length, ⟨_, F1, a1.ex x12 hf2, x12, hr, rfl, Nat.zero_le _⟩, ?_⟩
  rintro i m H3 ⟨F3, a3, x3, hq, hm, hile⟩
  by_cases hi : i < xs.length
  · have hil : i < (xs.map encA).length := by rw [List.length_map]; exact hi
    rw [List.drop_eq_getElem_cons hi] at hq hm
    unfold quantM2 at hq
    obtain ⟨ys, hys, hq⟩ := Option.bind_eq_some_iff.mp hq
    have hm : m = ys.length + 1 + cost2 gi (xs.drop (i + 1)) := by
      rw [hm]; unfold cost2; rw [List.map_cons, List.sum_cons, hys]
    have hx : (xs.map encA)[i]? = some (encA xs[i]) := by rw [List.getElem?_map, List.getElem?_eq_getElem hi]; rfl
    refine .inr ⟨w.goes i H3 hil x3.h, cost2 gi (xs.drop (i + 1)), fun H' => ∃ F', At S γ σ H' F' ∧ Ex2 S.tabs H1 F1 H' F' ∧ quantM2 al gi f (xs.drop (i + 1)) = some k, by omega, fun H' ⟨F', b1, b2, b3⟩ => ⟨_, Nat.le_refl _, F', b1, b2, b3, rfl, hi⟩, fun x H4 hy => ?_⟩
    obtain ⟨F4, a4, x4, dx⟩ := yd_take a3 x3.f hx (w.yields i H3 x H4 hil x3.h hy)
    obtain ⟨γ2, is, kk, g, hsub, ts, kf, kt⟩ := hb code xs[i] (List.getElem_mem hi) ys hys
    refine g _ H4 F4 x ((a4.wipe _).gx scope code) dx _ fun σ2 b2 l2 n2 => ⟨wipe_ext l2 n2 hsub, ?_⟩
    have fin : ∀ {k' : Bool}, k' = kk → ∀ {H5 F5 : Hp}, At (S.gx scope code) γ2 σ2 H5 F5 → Ex2 S.tabs H4 F4 H5 F5 →
        if k' = true then wI (S.gx scope code) tg1 iter1 σ2 H5 fun J1 H6 => ∃ W1 : Nat → Nat → Hp → Prop, (∃ k1, k1 + cost2 gi (xs.drop (i + 1)) < m ∧ W1 0 k1 H6) ∧ ∀ j k1 H7, W1 j k1 H7 →
          (J1.stop j H7 ∧ (∃ F', At S γ σ H7 F' ∧ Ex2 S.tabs H1 F1 H7 F' ∧ quantM2 al gi f (xs.drop (i + 1)) = some k)) ∨ (J1.go j H7 ∧ ∃ Nx1 : Hp → Prop, (∀ H', Nx1 H' → ∃ k', k' < k1 ∧ W1 (j + 1) k' H') ∧ ∀ x H', J1.yld j H7 x H' → wG (S.gx scope code) tg1 x (wipe σ2 vs1) H' fun σ3 H5 => wipe σ3 vs1 = wipe σ2 vs1 ∧ tTs (S.gx scope code) ifs1 σ3 H5 fun b H6 =>
            if b = true then wE (S.gx scope code) elt σ3 H6 fun y H7 => ∃ kk : Bool, y = .bl kk ∧ if kk = al then Nx1 H7 else Q (.bl (!al)) H7 else Nx1 H6)
        else (∃ F', At S γ σ H5 F' ∧ Ex2 S.tabs H1 F1 H5 F' ∧ quantM2 al gi f (xs.drop (i + 1)) = some k) := by
      intro k' ek H5 F5 b5 x5
      subst ek
      cases k' with
      | false =>
        rw [if_neg Bool.false_ne_true]
        rw [kf rfl] at hq
        have hq : (if al = (!al) then some (!al) else quantM2 al gi f (xs.drop (i + 1))) = some k := hq
        rw [if_neg (by cases al <;> simp)] at hq
        exact ⟨F5, a4.ex x5 b5.hf, (x3.trans x4).trans x5, hq⟩
      | true =>
        rw [if_pos rfl]
        obtain ⟨hi1, hb1⟩ := kt rfl
        refine hi1 σ2 H5 F5 b5 _ fun J1 H6 F6 b6 x6 hz6 w6 => ?_
        refine ⟨fun j k1 H7 => ∃ F7, At (S.gx scope code) γ2 σ2 H7 F7 ∧ Ex2 S.tabs H6 F6 H7 F7 ∧ ((quantM al (f xs[i]) (ys.drop j)).bind fun r => if r = (!al) then some (!al) else quantM2 al gi f (xs.drop (i + 1))) = some k ∧ k1 = ys.length - j ∧ j ≤ ys.length, ⟨ys.length, by omega, F6, b6, Ex2.refl _ _, hq, rfl, Nat.zero_le _⟩, ?_⟩
        rintro j k1 H7 ⟨F7, b7, x7, hq7, hk7, hj7⟩
        have x47 := (x5.trans x6).trans x7
        by_cases hj : j < ys.length
        · have hjl : j < (ys.map encB).length := by rw [List.length_map]; exact hj
          have hyj : (ys.map encB)[j]? = some (encB ys[j]) := by rw [List.getElem?_map, List.getElem?_eq_getElem hj]; rfl
          rw [List.drop_eq_getElem_cons hj] at hq7
          obtain ⟨r1, hq8, hq9⟩ := Option.bind_eq_some_iff.mp hq7
          unfold quantM at hq8
          obtain ⟨r, hr1, hr2⟩ := Option.bind_eq_some_iff.mp hq8
          refine .inr ⟨w6.goes j H7 hjl x7.h, fun H' => ∃ F', At (S.gx scope code) γ2 σ2 H' F' ∧ Ex2 S.tabs H6 F6 H' F' ∧ ((quantM al (f xs[i]) (ys.drop (j + 1))).bind fun r => if r = (!al) then some (!al) else quantM2 al gi f (xs.drop (i + 1))) = some k, fun H' ⟨F', c1, c2, c3⟩ => ⟨ys.length - (j + 1), by omega, F', c1, c2, c3, rfl, hj⟩, fun y H8 hy8 => ?_⟩
          obtain ⟨F8, b8, x8, dy⟩ := yd_take (S := S.gx scope code) b7 x7.f hyj (w6.yields j H7 y H8 hjl x7.h hy8)
          obtain ⟨γ3, is1, kk1, g1, hsub1, ts1, kf1, kt1⟩ := hb1 ys[j] (List.getElem_mem hj) r hr1
          refine g1 _ H8 F8 y (b8.wipe vs1) dy _ fun σ3 b9 l9 n9 => ⟨wipe_ext l9 n9 hsub1, ?_⟩
          have fin1 : ∀ {H9 F9 : Hp}, At (S.gx scope code) γ3 σ3 H9 F9 → Ex2 S.tabs H8 F8 H9 F9 → if kk1 = true then wE (S.gx scope code) elt σ3 H9 fun y H10 => ∃ b : Bool, y = .bl b ∧ if b = al then (∃ F', At (S.gx scope code) γ2 σ2 H10 F' ∧ Ex2 S.tabs H6 F6 H10 F' ∧ ((quantM al (f xs[i]) (ys.drop (j + 1))).bind fun r => if r = (!al) then some (!al) else quantM2 al gi f (xs.drop (i + 1))) = some k) else Q (.bl (!al)) H10
              else (∃ F', At (S.gx scope code) γ2 σ2 H9 F' ∧ Ex2 S.tabs H6 F6 H9 F' ∧ ((quantM al (f xs[i]) (ys.drop (j + 1))).bind fun r => if r = (!al) then some (!al) else quantM2 al gi f (xs.drop (i + 1))) = some k) := by
            intro H9 F9 c9 x9
            cases kk1 with
            | true =>
              rw [if_pos rfl]
              obtain ⟨d', eo, ed⟩ := kt1 rfl
              obtain ⟨b, er, rfl⟩ : ∃ b, r = some b ∧ d' = .bool b := by
                cases r with
                | none => cases eo
                | some b => exact ⟨b, rfl, (Option.some.inj eo).symm⟩
              refine ed σ3 H9 F9 c9 _ fun z H10 F10 c10 x10 dz => ?_
              cases dz
              refine ⟨b, rfl, ?_⟩
              have x810 := x9.trans x10
              by_cases hba : b = al
              · rw [if_pos hba]
                rw [er, if_neg (by rw [hba]; cases al <;> simp)] at hr2
                exact ⟨F10, b8.ex x810 c10.hf, (x7.trans x8).trans x810, by rw [hr2]; exact hq9⟩
              · rw [if_neg hba]
                have hbn : b = !al := by cases b <;> cases al <;> simp_all
                rw [er, if_pos (by rw [hbn])] at hr2
                cases hr2
                have hq9 : (if (!al) = (!al) then some (!al) else quantM2 al gi f (xs.drop (i + 1))) = some k := hq9
                rw [if_pos rfl] at hq9
                cases hq9
                exact q H10 F10 (a4.ex ((x47.trans x8).trans x810) c10.hf) (x1.trans ((x3.trans x4).trans ((x47.trans x8).trans x810)))
            | false =>
              rw [if_neg Bool.false_ne_true]
              obtain rfl : r = none := by
                have := kf1 rfl
                cases r with
                | none => rfl
                | some b => cases this
              rw [if_neg (by simp)] at hr2
              exact ⟨F9, b8.ex x9 c9.hf, (x7.trans x8).trans x9, by rw [hr2]; exact hq9⟩
          rcases ts1 with ⟨e1, e2⟩ | ⟨cc, e1, tc⟩
          · subst e1
            have := fin1 b9 (Ex2.refl _ _)
            rw [e2] at this
            exact this
          · subst e1
            exact tc σ3 H8 F8 b9 _ fun H9 F9 c9 x9 => fin1 c9 x9
        · have e9 : j = ys.length := by omega
          rw [List.drop_eq_nil_of_le (by omega)] at hq7
          have hq7 : (if al = (!al) then some (!al) else quantM2 al gi f (xs.drop (i + 1))) = some k := hq7
          rw [if_neg (by cases al <;> simp)] at hq7
          refine .inl ⟨?_, F7, a4.ex x47 b7.hf, (x3.trans x4).trans x47, hq7⟩
          have := w6.stops H7 x7.h
          rw [List.length_map, ← e9] at this
          exact this
    rcases ts with ⟨e1, e2⟩ | ⟨cc, e1, tc⟩
    · subst e1
      exact fin e2.symm b2 (Ex2.refl _ _)
    · subst e1
      exact tc σ2 H4 F4 b2 _ fun H5 F5 b5 x5 => fin rfl b5 x5
  · rw [List.drop_eq_nil_of_le (by omega)] at hq
    cases hq
    have e9 : i = xs.length := by omega
    refine .inl ⟨?_, q H3 F3 a3 (x1.trans x3)⟩
    have := w.stops H3 x3.h
    rw [List.length_map, ← e9] at this
    exact this
theorem e_gxAll2 (hk : 3 ≤ S.k) (hc : S.code = .ref c) (hP : P ∈ S.tabs.G) (TB : GxR.TabB S.base S.mg c P) (hg : IsGl S "all") (hm : S.mg "all" = none) (hi : IX S γ tg iter (xs.map encA))
    (hb : ∀ code, ∀ x ∈ xs, ∀ ys, gi x = some ys → CB2 (S.gx scope code) (wipeG γ (own.map (·.2))) tg ifs tg1 iter1 ifs1 elt (own.map (·.2)) vs1 (encA x) encB eB ys (f x)) (hr : quantM2 true gi f xs = some k) (hN : S.N.Nodup) (ok : gxB S.N S.sc scope own = true) (h1 : ifs.length ≤ 1) (h2 : ifs1.length ≤ 1) (hv : ∀ i ∈ vs1, i ∈ own.map (·.2)) (hs : ∀ (X : Cx) v, genFold iter X.env v = pure v) (hs1 : ∀ env x, foldedSetIterable iter1 env x = pure x)
    (he : ∀ X : Cx, starEach [.GeneratorExp elt [⟨tg, iter, ifs, 0⟩, ⟨tg1, iter1, ifs1, 0⟩] scope gpos] X.env = (false, eval (.GeneratorExp elt [⟨tg, iter, ifs, 0⟩, ⟨tg1, iter1, ifs1, 0⟩] scope gpos) X.env) :: starEach [] X.env) :
    EJ S γ (.Call (.Name "all" p) [.GeneratorExp elt [⟨tg, iter, ifs, 0⟩, ⟨tg1, iter1, ifs1, 0⟩] scope gpos] [] pos) (.bool k) := fun σ H F at_ Q q =>
  wE_of (fun X hX => pe_gxAll2 hX.calm (by rw [hX.N]; exact hN) hX.room (hX.gl hg) (hX.mgn hm) (by rw [hX.base, hX.mg]; exact TB) (by rw [hX.code]; exact hc) (by rw [hX.N, hX.sc]; exact gxOk_by ok) hv (pi_w hX)
      (fun s H cl C code fp pn => ⟨pg_w (hX.gx hk s H scope cl C code fp pn), pts_gx (hX.gx hk s H scope cl C code fp pn) h1, pi_w (hX.gx hk s H scope cl C code fp pn), pg_w (hX.gx hk s H scope cl C code fp pn), pts_gx (hX.gx hk s H scope cl C code fp pn) h2, pe_w (hX.gx hk s H scope cl C code fp pn)⟩) (hs X) hs1 (he X))
    (gx_read2 hi hP hb hr at_ fun H' F' a1 x1 => q (.bl k) H' F' a1 x1 (.bl k))
theorem e_gxAny2 (hk : 3 ≤ S.k) (hc : S.code = .ref c) (hP : P ∈ S.tabs.G) (TB : GxR.TabB S.base S.mg c P) (hg : IsGl S "any") (hm : S.mg "any" = none) (hi : IX S γ tg iter (xs.map encA))
    (hb : ∀ code, ∀ x ∈ xs, ∀ ys, gi x = some ys → CB2 (S.gx scope code) (wipeG γ (own.map (·.2))) tg ifs tg1 iter1 ifs1 elt (own.map (·.2)) vs1 (encA x) encB eB ys (f x)) (hr : quantM2 false gi f xs = some k) (hN : S.N.Nodup) (ok : gxB S.N S.sc scope own = true) (h1 : ifs.length ≤ 1) (h2 : ifs1.length ≤ 1) (hv : ∀ i ∈ vs1, i ∈ own.map (·.2)) (hs : ∀ (X : Cx) v, genFold iter X.env v = pure v) (hs1 : ∀ env x, foldedSetIterable iter1 env x = pure x)
    (he : ∀ X : Cx, starEach [.GeneratorExp elt [⟨tg, iter, ifs, 0⟩, ⟨tg1, iter1, ifs1, 0⟩] scope gpos] X.env = (false, eval (.GeneratorExp elt [⟨tg, iter, ifs, 0⟩, ⟨tg1, iter1, ifs1, 0⟩] scope gpos) X.env) :: starEach [] X.env) :
    EJ S γ (.Call (.Name "any" p) [.GeneratorExp elt [⟨tg, iter, ifs, 0⟩, ⟨tg1, iter1, ifs1, 0⟩] scope gpos] [] pos) (.bool k) := fun σ H F at_ Q q =>
  wE_of (fun X hX => pe_gxAny2 hX.calm (by rw [hX.N]; exact hN) hX.room (hX.gl hg) (hX.mgn hm) (by rw [hX.base, hX.mg]; exact TB) (by rw [hX.code]; exact hc) (by rw [hX.N, hX.sc]; exact gxOk_by ok) hv (pi_w hX)
      (fun s H cl C code fp pn => ⟨pg_w (hX.gx hk s H scope cl C code fp pn), pts_gx (hX.gx hk s H scope cl C code fp pn) h1, pi_w (hX.gx hk s H scope cl C code fp pn), pg_w (hX.gx hk s H scope cl C code fp pn), pts_gx (hX.gx hk s H scope cl C code fp pn) h2, pe_w (hX.gx hk s H scope cl C code fp pn)⟩) (hs X) hs1 (he X))
    (gx_read2 hi hP hb hr at_ fun H' F' a1 x1 => q (.bl k) H' F' a1 x1 (.bl k))
end
end SM

set_option autoImplicit false
set_option Elab.async false
set_option linter.all false
set_option maxRecDepth 100000
set_option maxHeartbeats 4000000
namespace SM
open PySem PySem.Spec PyProof.Rows L2
/-! ### list comprehensions of two clauses -/
def isOw : Option Sl → Bool
  | some (.ow _) => true
  | _ => false
/-- what γ2 owns γ owned, and no store was there -/
def owSub (γ γ2 : Gm) (is : List Nat) : Bool := (List.range γ2.length).all fun i => !isOw γ2[i]? || (isOw γ[i]? && !is.contains i)
theorem owSub_loose {γ γ2 : Gm} {is : List Nat} (h : owSub γ γ2 is = true) {σ σ2 : L2.St} {a : Addr} (l : Loose γ σ a) (n : ∀ j, j ∉ is → σ2[j]? = σ[j]?) : Loose γ2 σ2 a := fun j e hj z => by
  have hl : j < γ2.length := (List.getElem?_eq_some_iff.mp hj).1
  have := List.all_eq_true.mp h j (List.mem_range.mpr hl)
  rw [hj] at this
  have h2 : isOw γ[j]? = true ∧ (!is.contains j) = true := by
    simpa [isOw] using this
  have h3 : j ∉ is := by simpa using h2.2
  cases hg : γ[j]? with
  | none => rw [hg] at h2; cases h2.1
  | some s =>
    cases s with
    | ow d => exact l j d hg (by rw [← n j h3]; exact z)
    | _ => rw [hg] at h2; cases h2.1
def CB2L {β κ : Type} (S : Stat) (γ : Gm) (tg : Expr) (ifs : List Expr) (tg1 iter1 : Expr) (ifs1 : List Expr) (elt : Expr) (vs vs1 : List Nat) (d : PyData) (encB : β → PyData) (encC : κ → PyData) (ys : List β) (f : β → Option (Option κ)) : Prop :=
  ∃ γ2 is k, GJ S γ tg d γ2 is ∧ (∀ i ∈ is, i ∈ vs) ∧ TsJ S γ2 ifs k ∧ (k = false → ys = []) ∧ (k = true → IF S γ2 tg1 iter1 (ys.map encB) ∧ ∀ y ∈ ys, CBO S (wipeG γ2 vs1) tg1 ifs1 elt vs1 (encB y) encC (f y)) ∧ owSub γ γ2 is = true
def comp2M {α β κ : Type} (gi : α → Option (List β)) (f : α → β → Option (Option κ)) : List α → Option (List κ)
  | [] => some []
  | x :: xs => (gi x).bind fun ys => (compM (f x) ys).bind fun zs => (comp2M gi f xs).bind fun r => some (zs ++ r)
def lc2M {α β κ : Type} (gi : α → Option (List β)) (f : α → β → Option (Option κ)) (xs : List α) : Option (List κ) := (comp2M gi f xs).bind fun zs => if zs.length ≤ 16777216 then some zs else none
theorem Loose.wipe {γ : Gm} {σ : L2.St} {a : Addr} (l : Loose γ σ a) : ∀ vs : List Nat, Loose (wipeG γ vs) (wipe σ vs) a
  | [] => l
  | v :: vs => fun j e hj z => by
    have hj : ((wipeG γ vs).set v .un)[j]? = some (.ow e) := hj
    rcases set_cases hj with ⟨_, e1, _⟩ | ⟨hne, hj⟩
    · cases e1
    · refine Loose.wipe l vs j e hj ?_
      have z : ((L2.wipe σ vs).set v none)[j]? = some (some (V.ref a)) := z
      rwa [get_set_ne hne] at z
section
variable {S : Stat} {γ : Gm} {σ : L2.St} {H F : Hp} {tg iter elt tg1 iter1 : Expr} {ifs ifs1 : List Expr} {scope : Scope} {own : List (Str × Nat)} {vs vs1 : List Nat} {p pos : Pos} {τ υ κ : Type} {encA : τ → PyData} {encB : υ → PyData} {encC : κ → PyData} {xs : List τ} {zs : List κ} {gi : τ → Option (List υ)} {f : τ → υ → Option (Option κ)}
/-- the new list at D, with acc in it -/
def LcAt (S : Stat) (encC : κ → PyData) (H1 F1 : Hp) (D : Addr) (acc : List κ) (H F : Hp) : Prop := F D = none ∧ (∃ us, H D = some (.lst us) ∧ DpAll S.K F us (acc.map encC)) ∧ Ex2 S.tabs H1 F1 H F
theorem LcAt.ex {H1 F1 H' F' : Hp} {D : Addr} {acc : List κ} (h : LcAt S encC H1 F1 D acc H F) (hf : HF H' F') (x : Ex2 S.tabs H F H' F') : LcAt S encC H1 F1 D acc H' F' := by
  obtain ⟨h1, ⟨us, h2, h3⟩, h4⟩ := h
  refine ⟨?_, ⟨us, x.h.keep D _ h2 (fun _ z => by cases z), h3.zmono x.f⟩, h4.trans x⟩
  cases z : F' D with
  | none => rfl
  | some u => have := x.n D u z h1; rw [h2] at this; cases this
theorem LcAt.app {H1 F1 : Hp} {D : Addr} {acc : List κ} {y : V} {c : κ} (hD : H1 D = none) (h : LcAt S encC H1 F1 D acc H F) (d : Dp S.K F y (encC c)) : ∃ us, H D = some (.lst us) ∧ us.length = acc.length ∧ LcAt S encC H1 F1 D (acc ++ [c]) (upd H D (.lst (us ++ [y]))) F := by
  obtain ⟨h1, ⟨us, h2, h3⟩, h4⟩ := h
  refine ⟨us, h2, by rw [h3.zlen, List.length_map], h1, ⟨_, upd_same, ?_⟩, h4.h.mut hD (NotCode.lst h2) (fun ps z => by rw [h2] at z; cases z), h4.f, h4.n⟩
  rw [List.map_append]
  exact h3.zapp (.cons d .nil)
theorem lc_read2 (hi : IX S γ tg iter (xs.map encA)) (hb : ∀ x ∈ xs, ∀ ys, gi x = some ys → CB2L (S.blk scope) (wipeG γ vs) tg ifs tg1 iter1 ifs1 elt vs vs1 (encA x) encB encC ys (f x)) (hr : lc2M gi f xs = some zs) (at_ : At S γ σ H F) {Q : VK}
    (q : ∀ v H' F', At S γ σ H' F' → Ex2 S.tabs H F H' F' → (∃ a us, v = .ref a ∧ H a = none ∧ F' a = none ∧ H' a = some (.lst us) ∧ DpAll S.K F' us (zs.map encC)) → Q v H') :
    tLc2 (wI S tg iter) (wG (S.blk scope) tg) (tTs (S.blk scope) ifs) (wI (S.blk scope) tg1 iter1) (wG (S.blk scope) tg1) (tTs (S.blk scope) ifs1) (wE (S.blk scope) elt) vs vs1 σ H Q := by
  obtain ⟨zs', hr, hlim⟩ := Option.bind_eq_some_iff.mp hr
  split at hlim
  case isFalse => cases hlim
  rename_i hz
  cases hlim
  refine hi σ H F at_ _ fun J H1 F1 a1 x1 hzI w D hD => ?_
  have bD : S.B D = none := a1.ext.back hD
  have sl : sizeLine = 16777216 := sizeLine_eq
  -- a mutation of D leaves a frame as it is
  have mutD : ∀ {S' : Stat} {γ' : Gm} {σ' : L2.St} {H' F' : Hp} {us : List V} {o : List V}, S'.B = S.B → At S' γ' σ' H' F' → Loose γ' σ' D → F' D = none → H' D = some (.lst us) → At S' γ' σ' (upd H' D (.lst o)) F' := fun {S' γ' σ' H' F' us o} eB a l f1 f2 =>
    a.mut l f1 (by rw [eB]; exact bD) (fun ps z => by rw [f2] at z; cases z) (NotCode.lst f2)
  refine ⟨fun i m H3 => ∃ F3 acc rest, At S γ σ H3 F3 ∧ Loose γ σ D ∧ LcAt S encC H1 F1 D acc H3 F3 ∧ comp2M gi f (xs.drop i) = some rest ∧ zs = acc ++ rest ∧ m = xs.length - i ∧ i ≤ xs.length,
    ⟨_, F1, [], zs, a1.ex (ex_newH hD) (a1.hf.newH hD), Loose.new a1 hD, ⟨a1.hf.fnone hD, ⟨[], upd_same, .nil⟩, ex_newH hD⟩, hr, rfl, rfl, Nat.zero_le _⟩, ?_⟩
  rintro i m H3 ⟨F3, acc, rest, a3, lo, L3, hq, hzs, hm, hile⟩
  by_cases hi : i < xs.length
  · have hil : i < (xs.map encA).length := by rw [List.length_map]; exact hi
    rw [List.drop_eq_getElem_cons hi] at hq
    unfold comp2M at hq
    obtain ⟨ys, hys, hq⟩ := Option.bind_eq_some_iff.mp hq
    obtain ⟨ws, hws, hq⟩ := Option.bind_eq_some_iff.mp hq
    obtain ⟨rest', hrest, hq⟩ := Option.bind_eq_some_iff.mp hq
    have hq : ws ++ rest' = rest := Option.some.inj hq
    have hx : (xs.map encA)[i]? = some (encA xs[i]) := by rw [List.getElem?_map, List.getElem?_eq_getElem hi]; rfl
    refine .inr ⟨w.goes i H3 hil L3.2.2.h, fun H' => ∃ F' acc', At S γ σ H' F' ∧ LcAt S encC H1 F1 D acc' H' F' ∧ zs = acc' ++ rest', fun H' ⟨F', acc', b1, b2, b3⟩ => ⟨xs.length - (i + 1), by omega, F', acc', rest', b1, lo, b2, hrest, b3, rfl, hi⟩, fun x H4 hy => ?_⟩
    obtain ⟨F4, a4, x4, dx⟩ := yd_take a3 L3.2.2.f hx (w.yields i H3 x H4 hil L3.2.2.h hy)
    have L4 := L3.ex a4.hf x4
    obtain ⟨γ2, is, kk, g, hsub, ts, kf, kt, how⟩ := hb xs[i] (List.getElem_mem hi) ys hys
    refine g _ H4 F4 x ((a4.wipe _).blk scope) dx _ fun σ2 b2 l2 n2 => ⟨wipe_ext l2 n2 hsub, ?_⟩
    have lo2 : Loose γ2 σ2 D := owSub_loose how (lo.wipe vs) n2
    have fin : ∀ {k' : Bool}, k' = kk → ∀ {H5 F5 : Hp}, At (S.blk scope) γ2 σ2 H5 F5 → At S γ σ H5 F5 → LcAt S encC H1 F1 D acc H5 F5 →
        if k' = true then wI (S.blk scope) tg1 iter1 σ2 H5 fun J1 H6 => ∃ W1 : Nat → Nat → Hp → Prop, (∃ k1, W1 0 k1 H6) ∧ ∀ j k1 H7, W1 j k1 H7 →
          (J1.stop j H7 ∧ (∃ F' acc', At S γ σ H7 F' ∧ LcAt S encC H1 F1 D acc' H7 F' ∧ zs = acc' ++ rest')) ∨ (J1.go j H7 ∧ ∃ Nx1 : Hp → Prop, (∀ H', Nx1 H' → ∃ k', k' < k1 ∧ W1 (j + 1) k' H') ∧ ∀ x H', J1.yld j H7 x H' → wG (S.blk scope) tg1 x (wipe σ2 vs1) H' fun σ3 H5 => wipe σ3 vs1 = wipe σ2 vs1 ∧ tTs (S.blk scope) ifs1 σ3 H5 fun b H6 =>
            if b = true then wE (S.blk scope) elt σ3 H6 fun y H7 => ∃ acc, H7 D = some (.lst acc) ∧ acc.length < sizeLine ∧ Nx1 (upd H7 D (.lst (acc ++ [y]))) else Nx1 H6)
        else (∃ F' acc', At S γ σ H5 F' ∧ LcAt S encC H1 F1 D acc' H5 F' ∧ zs = acc' ++ rest') := by
      intro k' ek H5 F5 b5 a5 L5
      subst ek
      cases k' with
      | false =>
        rw [if_neg Bool.false_ne_true]
        rw [kf rfl] at hws
        have : ws = [] := (Option.some.inj hws).symm
        subst this
        exact ⟨F5, acc, a5, L5, by rw [hzs, ← hq]; rfl⟩
      | true =>
        rw [if_pos rfl]
        obtain ⟨hi1, hb1⟩ := kt rfl
        refine hi1 σ2 H5 F5 b5 _ fun J1 H6 F6 b6 x6 hz6 w6 => ?_
        have a6 := a5.ex x6 b6.hf
        have L6 := L5.ex b6.hf x6
        refine ⟨fun j k1 H7 => ∃ F7 acc7 r7, At (S.blk scope) γ2 σ2 H7 F7 ∧ At S γ σ H7 F7 ∧ LcAt S encC H1 F1 D acc7 H7 F7 ∧ Le F6 F7 ∧ compM (f xs[i]) (ys.drop j) = some r7 ∧ zs = acc7 ++ (r7 ++ rest') ∧ k1 = ys.length - j ∧ j ≤ ys.length, ⟨ys.length, F6, acc, ws, b6, a6, L6, Le.refl _, hws, by rw [hzs, ← hq], rfl, Nat.zero_le _⟩, ?_⟩
        rintro j k1 H7 ⟨F7, acc7, r7, b7, a7, L7, le7, hq7, hz7, hk7, hj7⟩
        have l67 : Le F6 H7 := le7.trans b7.hf.le
        by_cases hj : j < ys.length
        · have hjl : j < (ys.map encB).length := by rw [List.length_map]; exact hj
          have hyj : (ys.map encB)[j]? = some (encB ys[j]) := by rw [List.getElem?_map, List.getElem?_eq_getElem hj]; rfl
          rw [List.drop_eq_getElem_cons hj] at hq7
          unfold compM at hq7
          obtain ⟨r, hr1, hq7⟩ := Option.bind_eq_some_iff.mp hq7
          obtain ⟨r8, hr8, hq7⟩ := Option.bind_eq_some_iff.mp hq7
          have hq7 : r.toList ++ r8 = r7 := by cases r <;> exact Option.some.inj hq7
          refine .inr ⟨w6.goes j H7 hjl l67, fun H' => ∃ F' acc', At (S.blk scope) γ2 σ2 H' F' ∧ At S γ σ H' F' ∧ LcAt S encC H1 F1 D acc' H' F' ∧ Le F6 F' ∧ zs = acc' ++ (r8 ++ rest'), fun H' ⟨F', acc', c1, c2, c3, c4, c5⟩ => ⟨ys.length - (j + 1), by omega, F', acc', r8, c1, c2, c3, c4, hr8, c5, rfl, hj⟩, fun y H8 hy8 => ?_⟩
          obtain ⟨F8, b8, x8, dy⟩ := yd_take (S := S.blk scope) b7 le7 hyj (w6.yields j H7 y H8 hjl l67 hy8)
          have a8 := a7.ex x8 b8.hf
          have L8 := L7.ex b8.hf x8
          obtain ⟨γ3, is1, kk1, g1, hsub1, ts1, kf1, kt1⟩ := hb1 ys[j] (List.getElem_mem hj) r hr1
          refine g1 _ H8 F8 y (b8.wipe vs1) dy _ fun σ3 b9 l9 n9 => ⟨wipe_ext l9 n9 hsub1, ?_⟩
          have fin1 : ∀ {H9 F9 : Hp}, At (S.blk scope) γ3 σ3 H9 F9 → Ex2 S.tabs H8 F8 H9 F9 → if kk1 = true then wE (S.blk scope) elt σ3 H9 fun y H10 => ∃ us, H10 D = some (.lst us) ∧ us.length < sizeLine ∧ (∃ F' acc', At (S.blk scope) γ2 σ2 (upd H10 D (.lst (us ++ [y]))) F' ∧ At S γ σ (upd H10 D (.lst (us ++ [y]))) F' ∧ LcAt S encC H1 F1 D acc' (upd H10 D (.lst (us ++ [y]))) F' ∧ Le F6 F' ∧ zs = acc' ++ (r8 ++ rest'))
              else (∃ F' acc', At (S.blk scope) γ2 σ2 H9 F' ∧ At S γ σ H9 F' ∧ LcAt S encC H1 F1 D acc' H9 F' ∧ Le F6 F' ∧ zs = acc' ++ (r8 ++ rest')) := by
            intro H9 F9 c9 x9
            cases kk1 with
            | true =>
              rw [if_pos rfl]
              obtain ⟨d', eo, ed⟩ := kt1 rfl
              obtain ⟨b, er, rfl⟩ : ∃ b, r = some b ∧ d' = encC b := by
                cases r with
                | none => cases eo
                | some b => exact ⟨b, rfl, (Option.some.inj eo).symm⟩
              refine ed σ3 H9 F9 c9 _ fun z H10 F10 c10 x10 dz => ?_
              have x810 := x9.trans x10
              have L10 := L8.ex c10.hf x810
              obtain ⟨us, hus, hul, L11⟩ := L10.app hD dz
              have hzz : zs = (acc7 ++ [b]) ++ (r8 ++ rest') := by
                rw [hz7, ← hq7, er]; simp
              refine ⟨us, hus, ?_, F10, acc7 ++ [b], mutD rfl (b8.ex x810 c10.hf) lo2 L10.1 hus, mutD rfl (a8.ex x810 c10.hf) lo L10.1 hus, L11, (le7.trans x8.f).trans x810.f, hzz⟩
              have : acc7.length < zs.length := by rw [hzz]; simp
              rw [hul, sl]
              omega
            | false =>
              rw [if_neg Bool.false_ne_true]
              obtain rfl : r = none := by
                have := kf1 rfl
                cases r with
                | none => rfl
                | some b => cases this
              exact ⟨F9, acc7, b8.ex x9 c9.hf, a8.ex x9 c9.hf, L8.ex c9.hf x9, (le7.trans x8.f).trans x9.f, by rw [hz7, ← hq7]; rfl⟩
          rcases ts1 with ⟨e1, e2⟩ | ⟨cc, e1, tc⟩
          · subst e1
            have := fin1 b9 (Ex2.refl _ _)
            rw [e2] at this
            exact this
          · subst e1
            exact tc σ3 H8 F8 b9 _ fun H9 F9 c9 x9 => fin1 c9 x9
        · have e9 : j = ys.length := by omega
          rw [List.drop_eq_nil_of_le (by omega)] at hq7
          have : r7 = [] := (Option.some.inj hq7).symm
          subst this
          refine .inl ⟨?_, F7, acc7, a7, L7, by rw [hz7]; rfl⟩
          have := w6.stops H7 l67
          rw [List.length_map, ← e9] at this
          exact this
    rcases ts with ⟨e1, e2⟩ | ⟨cc, e1, tc⟩
    · subst e1
      exact fin e2.symm b2 a4 L4
    · subst e1
      exact tc σ2 H4 F4 b2 _ fun H5 F5 b5 x5 => fin rfl b5 (a4.ex x5 b5.hf) (L4.ex b5.hf x5)
  · rw [List.drop_eq_nil_of_le (by omega)] at hq
    cases hq
    have e9 : i = xs.length := by omega
    obtain ⟨us, h2, h3⟩ := L3.2.1
    refine .inl ⟨?_, q _ H3 F3 a3 (x1.trans L3.2.2) ⟨D, us, rfl, x1.h.back hD, L3.1, h2, by rw [hzs, List.append_nil]; exact h3⟩⟩
    have := w.stops H3 L3.2.2.h
    rw [List.length_map, ← e9] at this
    exact this
theorem f_lc2 (hi : IX S γ tg iter (xs.map encA)) (hb : ∀ x ∈ xs, ∀ ys, gi x = some ys → CB2L (S.blk scope) (wipeG γ (own.map (·.2))) tg ifs tg1 iter1 ifs1 elt (own.map (·.2)) vs1 (encA x) encB encC ys (f x)) (hr : lc2M gi f xs = some zs)
    (hN : S.N.Nodup) (ok : blkC S.N S.sc scope own = true) (h1 : ifs.length ≤ 1) (h2 : ifs1.length ≤ 1) (hv : ∀ i ∈ vs1, i ∈ own.map (·.2)) (hs : ∀ (X : Cx) x, foldedSetIterable iter X.env x = pure x) (hs1 : ∀ env x, foldedSetIterable iter1 env x = pure x) : FJ S γ (.ListComp elt [⟨tg, iter, ifs, 0⟩, ⟨tg1, iter1, ifs1, 0⟩] scope pos) (zs.map encC) := fun σ H F at_ Q q =>
  wE_of (fun X hX => pe_lc2 hX.calm (by rw [hX.N]; exact hN) (pi_w hX) (by rw [hX.N, hX.sc]; exact blkOk_by ok) hv (fun s H C cl fp => pg_w (hX.blk s H scope cl C fp)) (fun s H C cl fp => pts_w (hX.blk s H scope cl C fp) h1)
      (fun s H C cl fp => pi_w (hX.blk s H scope cl C fp)) (fun s H C cl fp => pg_w (hX.blk s H scope cl C fp)) (fun s H C cl fp => pts_w (hX.blk s H scope cl C fp) h2) (fun s H C cl fp => pe_w (hX.blk s H scope cl C fp)) (hs X) hs1)
    (lc_read2 hi hb hr at_ q)
theorem s1_setLc2 {p : Post} {px : Pos} {x : Str} {i : Nat} {pl : Pos} (n : NmOk S x i) (hy : S.sc.names.lookup x = some .local)
    (hi : IX S γ tg iter (xs.map encA)) (hb : ∀ x ∈ xs, ∀ ys, gi x = some ys → CB2L (S.blk scope) (wipeG γ (own.map (·.2))) tg ifs tg1 iter1 ifs1 elt (own.map (·.2)) vs1 (encA x) encB encC ys (f x)) (hr : lc2M gi f xs = some zs)
    (ok : blkC S.N S.sc scope own = true) (h1 : ifs.length ≤ 1) (h2 : ifs1.length ≤ 1) (hv : ∀ i ∈ vs1, i ∈ own.map (·.2)) (hs : ∀ (X : Cx) x, foldedSetIterable iter X.env x = pure x) (hs1 : ∀ env x, foldedSetIterable iter1 env x = pure x) (hli : (px.line == pl.line) = true) (hk : S.sc.kind = .function)
    (hsn : (scope.names.any fun (n, k) => n == x && (k == .local || k == .cell)) = false) (hp : p.nx (γ.set i (.ow (.list (zs.map encC))))) : SJ1 S γ (.Assign [.Name x px] (.ListComp elt [⟨tg, iter, ifs, 0⟩, ⟨tg1, iter1, ifs1, 0⟩] scope pl) pos) p := fun σ H F at_ D k1 k2 =>
  wS1_of (fun X hX => ps_setLc2 (i := i) hX.calm (by rw [hX.N]; exact n.nd) (by rw [hX.N]; exact n.at_) (by rw [hX.sc]; exact hy) (sw_true (by rw [hX.sc]; exact hk) (by rw [hX.sc]; exact hy) hli hsn) (pi_w hX) (by rw [hX.N, hX.sc]; exact blkOk_by ok) hv
    (fun s H C cl fp => pg_w (hX.blk s H scope cl C fp)) (fun s H C cl fp => pts_w (hX.blk s H scope cl C fp) h1) (fun s H C cl fp => pi_w (hX.blk s H scope cl C fp)) (fun s H C cl fp => pg_w (hX.blk s H scope cl C fp)) (fun s H C cl fp => pts_w (hX.blk s H scope cl C fp) h2) (fun s H C cl fp => pe_w (hX.blk s H scope cl C fp)) (hs X) hs1)
    (lc_read2 hi hb hr at_ fun v H1 F1 a1 x1 ⟨a, us, e1, h1, h2, h3, h4⟩ => by
      subst e1
      exact k1 _ _ H1 F1 hp (a1.setOw ⟨at_.ext.back h1, h2, us, h3, h4⟩ fun j e hj z => Loose.new at_ h1 j e hj z) x1.f)
theorem j_setLc2 {ρ : Type} {px : Pos} {post : ρ → Post} {o : Option ρ} {rest : List Stmt} {x : Str} {i : Nat} {pl : Pos} (n : NmOk S x i) (hy : S.sc.names.lookup x = some .local)
    (hi : IX S γ tg iter (xs.map encA)) (hb : ∀ x ∈ xs, ∀ ys, gi x = some ys → CB2L (S.blk scope) (wipeG γ (own.map (·.2))) tg ifs tg1 iter1 ifs1 elt (own.map (·.2)) vs1 (encA x) encB encC ys (f x)) (hr : lc2M gi f xs = some zs)
    (ok : blkC S.N S.sc scope own = true) (h1 : ifs.length ≤ 1) (h2 : ifs1.length ≤ 1) (hv : ∀ i ∈ vs1, i ∈ own.map (·.2)) (hs : ∀ (X : Cx) x, foldedSetIterable iter X.env x = pure x) (hs1 : ∀ env x, foldedSetIterable iter1 env x = pure x) (hli : (px.line == pl.line) = true) (hk : S.sc.kind = .function)
    (hsn : (scope.names.any fun (n, k) => n == x && (k == .local || k == .cell)) = false) (hrest : J S (γ.set i (.ow (.list (zs.map encC)))) rest post o) : J S γ (.Assign [.Name x px] (.ListComp elt [⟨tg, iter, ifs, 0⟩, ⟨tg1, iter1, ifs1, 0⟩] scope pl) pos :: rest) post o := fun y hyy =>
  s_cons (N := fun g => g = γ.set i (.ow (.list (zs.map encC)))) (s1_setLc2 n hy hi hb hr ok h1 h2 hv hs hs1 hli hk hsn rfl) fun g hg => by subst hg; exact hrest y hyy
end
end SM

set_option autoImplicit false
set_option Elab.async false
set_option linter.all false
set_option maxRecDepth 100000
set_option maxHeartbeats 4000000
namespace SM
open PySem PySem.Spec PyProof.Rows L2
/-! ### range(i, j, c) -/
def rng3 (i j c : Int) : List Int := (List.range (Builtin.Range.rangeSize i j c).toNat).map fun (k : Nat) => i + (k : Int) * c
def rng3O (i j c : Int) : Option (List Int) := if c ≠ 0 ∧ c.natAbs < 1073741824 ∧ Builtin.Range.small i j c = true ∧ (Builtin.Range.rangeSize i j c).toNat ≤ 16777216 then some (rng3 i j c) else none
/-- the place of the first x -/
def idxO {α : Type} [DecidableEq α] (xs : List α) (x : α) : Option Int := (xs.findIdx? fun y => decide (y = x)).map fun (k : Nat) => (k : Int)
section
variable {S : Stat} {γ : Gm} {tg a b c e o : Expr} {pos p apos : Pos}
theorem i_range3O {x y z : Int} {xs : List Int} (hg : IsGl S "range") (hm : S.mg "range" = none) (ha : EJ S γ a (.int x)) (hb : EJ S γ b (.int y)) (hc : EJ S γ c (.int z)) (hs : PlainE a) (hs2 : PlainE b) (hs3 : PlainE c) (hr : rng3O x y z = some xs) : IF S γ tg (.Call (.Name "range" p) [a, b, c] [] pos) (xs.map eI) := by
  unfold rng3O at hr
  split at hr
  case isFalse => cases hr
  rename_i h
  obtain ⟨h1, h2, h3, h4⟩ := h
  cases hr
  exact fun σ H F at_ R q =>
  wI_of (fun X hX => pi_range3 (hX.gl hg) (hX.mgn hm) (pa_cons (pe_w hX) (pa_cons (pe_w hX) (pa_cons (pe_w hX) pa_nil (hs3 [] X.env)) (hs2 [c] X.env)) (hs [b, c] X.env)) (hs [b, c] X.env) (by rw [hs2 [c] X.env, hs3 [] X.env]; rfl)) (ha σ H F at_ _ fun v H1 F1 a1 x1 d1 => hb σ H1 F1 a1 _ fun u H2 F2 a2 x2 d2 => hc σ H2 F2 a2 _ fun w H3 F3 a3 x3 d3 => by
    cases d1; cases d2; cases d3
    refine ⟨x, y, z, _, rfl, ⟨h1, h2, h3, PyProof.Rows.rangeSize_toNat x y z⟩, q _ H3 F3 a3 ((x1.trans x2).trans x3) ?_ ?_⟩
    · rw [List.length_map, rng3, List.length_map, List.length_range, sizeLine_eq]; exact h4
    · have e : ((rng3 x y z).map eI).length = (Builtin.Range.rangeSize x y z).toNat := by rw [List.length_map, rng3, List.length_map, List.length_range]
      rw [e]
      refine ⟨fun i H' hi _ => hi, fun H' _ => Nat.le_refl _, fun i H' v H'' hi _ hy => ?_⟩
      obtain ⟨e1, e2⟩ := hy
      refine ⟨.int (x + (i : Int) * z), ?_, .inl ⟨e1, by rw [e2]; exact .int _⟩⟩
      rw [List.getElem?_map, rng3, List.getElem?_map, List.getElem?_range hi]; rfl)
/-! ### x.index(v) of a list -/
theorem e_indexL {α : Type} [DecidableEq α] {enc : α → PyData} {n : Nat} {xs : List α} {v : α} {i : Int} (hE : EqE enc n) (hn : n ≤ 60) (ho : QJ S γ o .l (xs.map enc)) (he : EJ S γ e (enc v)) (hr : idxO xs v = some i)
    (hs : PlainE e) (hba : ∀ X : Cx, attributeBase o "index" X.env (eval o X.env) = eval o X.env) (hli : (apos.endLine == pos.line) = true)
    (hfew : ∀ X : Cx, ((backTo pos (starEach [e] X.env)).all (fun x => !x.1) && (backToKw pos (keywordEach [] X.env)).all (fun x => x.1.isSome)
      && decide (([e] : List Expr).length + ([] : List Keyword).length + (if ([] : List Keyword).isEmpty then 0 else 1) < 30)) = true) : EJ S γ (.Call (.Attribute o "index" apos) [e] [] pos) (.int i) := fun σ H F at_ Q q => by
  obtain ⟨k, hk, rfl⟩ := Option.map_eq_some_iff.mp hr
  obtain ⟨hkl, hk1, hk2⟩ := List.findIdx?_eq_some_iff_getElem.mp hk
  refine wE_of (t := tBM S.K "list" (rIndexD S.K) (wE S o) (tCons (wE S e) tNil)) (fun X hX => hX.K ▸ pe_bm PySem.F.plainAttrs_list PySem.F.slot_list_index PySem.F.type_list_index (mt_indexD (by have := hX.room.un; omega)) (pe_w hX) (pa_cons (pe_w hX) pa_nil (hs [] X.env)) (hba X) (hfew X) hli (hs [] X.env) rfl)
    (ho σ H F at_ _ fun v1 H1 F1 a1 x1 ⟨l, vs, e1, h1, h2⟩ => ?_)
  subst e1
  refine ⟨.inl ⟨rfl, vs, h1⟩, ?_⟩
  refine he σ H1 F1 a1 _ fun u H2 F2 a2 x2 d2 => ?_
  have h1' : SqL S.K H2 l vs := SqX.ext (k := .l) x2.h h1
  have eqv : ∀ y : α, PyData.eqv (enc y) (enc v) = decide (y = v) := fun y => hE.dec y v
  refine ⟨l, u, enc v, xs.map enc, k, enc xs[k], rfl, rfl, .lst h1' ((h2.zmono x2.f).zmono a2.hf.le), d2.zmono a2.hf.le, (eqE_L hE).sh (by omega) xs, hE.sh (by omega) v, ?_, ?_, fun m z' hm hz => ?_, q _ H2 F2 a2 (x1.trans x2) (.int _)⟩
  · rw [List.getElem?_map, List.getElem?_eq_getElem hkl]; rfl
  · rw [eqv]; exact hk1
  · rw [List.getElem?_map] at hz
    obtain ⟨y, hy, rfl⟩ := Option.map_eq_some_iff.mp hz
    rw [eqv]
    have := hk2 m hm
    obtain ⟨hml, hme⟩ := List.getElem?_eq_some_iff.mp hy
    rw [hme] at this
    simpa using this
/-! ### (x,) * n -/
theorem e_repT {α : Type} {enc : α → PyData} {x : α} {i : Int} (ha : EJ S γ a (.tuple [enc x])) (hb : EJ S γ b (.int i)) (h1 : 2 ≤ i ∧ i ≤ 1000) : EJ S γ (.BinOp a .Mult b pos) (.tuple ((List.replicate i.toNat x).map enc)) := fun σ H F at_ Q q =>
  wE_of (t := tOp (rRepT S.K) (wE S a) (wE S b)) (fun X hX => hX.K ▸ pe_op op_repT (pe_w hX) (pe_w hX)) (ha σ H F at_ _ fun v H1 F1 a1 x1 d1 => hb σ H1 F1 a1 _ fun u H2 F2 a2 x2 d2 => by
    cases d2
    cases d1 with
    | @tup p1 vs _ t1 t2 =>
    cases t2 with
    | @cons v0 _ _ _ hv hn =>
    cases hn
    refine ⟨p1, i, [v0], rfl, rfl, (a2.hf.le.sqT (x2.f.sqT t1)), by simp, h1.1, h1.2, by simp, fun p hp => ?_⟩
    have e : (List.replicate i.toNat [v0]).flatten = List.replicate i.toNat v0 := flat1 _ _
    rw [e]
    have x4 : Ex2 S.tabs H2 F2 (upd H2 p (.tup (List.replicate i.toNat v0))) (upd F2 p (.tup (List.replicate i.toNat v0))) := ex_new a2.hf hp
    refine q _ _ _ (a2.ex x4 (a2.hf.new hp fun _ z => by cases z)) ((x1.trans x2).trans x4) (.tup (SqT.of upd_same) ?_)
    rw [List.map_replicate]
    exact (DpAll.rep (hv.zmono x2.f) _).zmono x4.f)
end
end SM

set_option autoImplicit false
set_option Elab.async false
set_option linter.all false
set_option maxRecDepth 100000
set_option maxHeartbeats 4000000
namespace SM
open PySem PySem.Spec PyProof.Rows L2
/-! ### a turn of two clauses, by what its source may fail at -/
section
variable {S : Stat} {γ γ2 : Gm} {is : List Nat} {tg tg1 iter1 elt : Expr} {ifs ifs1 : List Expr} {vs vs1 : List Nat} {d : PyData} {β κ τ : Type} {encB : β → PyData} {encC : κ → PyData} {f : β → Option (Option κ)}
def CB2O (S : Stat) (γ : Gm) (tg : Expr) (ifs : List Expr) (tg1 iter1 : Expr) (ifs1 : List Expr) (elt : Expr) (vs vs1 : List Nat) (d : PyData) (encB : β → PyData) (encC : κ → PyData) (f : β → Option (Option κ)) (o : Option (List β)) : Prop := ∀ ys, o = some ys → CB2 S γ tg ifs tg1 iter1 ifs1 elt vs vs1 d encB encC ys f
def CB2LO (S : Stat) (γ : Gm) (tg : Expr) (ifs : List Expr) (tg1 iter1 : Expr) (ifs1 : List Expr) (elt : Expr) (vs vs1 : List Nat) (d : PyData) (encB : β → PyData) (encC : κ → PyData) (f : β → Option (Option κ)) (o : Option (List β)) : Prop := ∀ ys, o = some ys → CB2L S γ tg ifs tg1 iter1 ifs1 elt vs vs1 d encB encC ys f
theorem cb2_bind {o : Option τ} {k : τ → Option (List β)} (h : ∀ t, o = some t → CB2O S γ tg ifs tg1 iter1 ifs1 elt vs vs1 d encB encC f (k t)) : CB2O S γ tg ifs tg1 iter1 ifs1 elt vs vs1 d encB encC f (o.bind k) := fun ys e => by
  obtain ⟨t, h1, h2⟩ := Option.bind_eq_some_iff.mp e
  exact h t h1 ys h2
theorem cb2l_bind {o : Option τ} {k : τ → Option (List β)} (h : ∀ t, o = some t → CB2LO S γ tg ifs tg1 iter1 ifs1 elt vs vs1 d encB encC f (k t)) : CB2LO S γ tg ifs tg1 iter1 ifs1 elt vs vs1 d encB encC f (o.bind k) := fun ys e => by
  obtain ⟨t, h1, h2⟩ := Option.bind_eq_some_iff.mp e
  exact h t h1 ys h2
theorem cb2_0 {ys : List β} (g : GJ S γ tg d γ2 is) (hs : ∀ i ∈ is, i ∈ vs) (hi : IX S γ2 tg1 iter1 (ys.map encB)) (hb : ∀ y ∈ ys, CBO S (wipeG γ2 vs1) tg1 ifs1 elt vs1 (encB y) encC (f y)) : CB2O S γ tg [] tg1 iter1 ifs1 elt vs vs1 d encB encC f (some ys) := fun ys' e => by
  cases e
  exact ⟨γ2, is, true, g, hs, .inl ⟨rfl, rfl⟩, (fun z => by cases z), fun _ => ⟨hi, hb⟩⟩
theorem cb2l_0 {ys : List β} (g : GJ S γ tg d γ2 is) (hs : ∀ i ∈ is, i ∈ vs) (hi : IF S γ2 tg1 iter1 (ys.map encB)) (hb : ∀ y ∈ ys, CBO S (wipeG γ2 vs1) tg1 ifs1 elt vs1 (encB y) encC (f y)) (hw : owSub γ γ2 is = true) : CB2LO S γ tg [] tg1 iter1 ifs1 elt vs vs1 d encB encC f (some ys) := fun ys' e => by
  cases e
  exact ⟨γ2, is, true, g, hs, .inl ⟨rfl, rfl⟩, (fun z => by cases z), (fun _ => ⟨hi, hb⟩), hw⟩
/-- with a test behind the first clause -/
theorem cb2_1 {c : Expr} {k : Bool} {o : Option (List β)} (g : GJ S γ tg d γ2 is) (hs : ∀ i ∈ is, i ∈ vs) (hc : TJ S γ2 c k) (hi : k = true → ∀ ys, o = some ys → IX S γ2 tg1 iter1 (ys.map encB) ∧ ∀ y ∈ ys, CBO S (wipeG γ2 vs1) tg1 ifs1 elt vs1 (encB y) encC (f y)) : CB2O S γ tg [c] tg1 iter1 ifs1 elt vs vs1 d encB encC f (if k = true then o else some []) := fun ys e => by
  refine ⟨γ2, is, k, g, hs, .inr ⟨c, rfl, hc⟩, fun z => ?_, fun z => ?_⟩
  · subst z
    rw [if_neg Bool.false_ne_true] at e
    exact (Option.some.inj e).symm
  · rw [if_pos z] at e
    exact hi z ys e
theorem cb2l_1 {c : Expr} {k : Bool} {o : Option (List β)} (g : GJ S γ tg d γ2 is) (hs : ∀ i ∈ is, i ∈ vs) (hc : TJ S γ2 c k) (hi : k = true → ∀ ys, o = some ys → IF S γ2 tg1 iter1 (ys.map encB) ∧ ∀ y ∈ ys, CBO S (wipeG γ2 vs1) tg1 ifs1 elt vs1 (encB y) encC (f y)) (hw : owSub γ γ2 is = true) : CB2LO S γ tg [c] tg1 iter1 ifs1 elt vs vs1 d encB encC f (if k = true then o else some []) := fun ys e => by
  refine ⟨γ2, is, k, g, hs, .inr ⟨c, rfl, hc⟩, fun z => ?_, fun z => ?_, hw⟩
  · subst z
    rw [if_neg Bool.false_ne_true] at e
    exact (Option.some.inj e).symm
  · rw [if_pos z] at e
    exact hi z ys e
theorem ob_elim {P : List β → Prop} {o : Option τ} {k : τ → Option (List β)} (h : ∀ t, o = some t → ∀ ys, k t = some ys → P ys) : ∀ ys, o.bind k = some ys → P ys := fun ys e => by
  obtain ⟨t, h1, h2⟩ := Option.bind_eq_some_iff.mp e
  exact h t h1 ys h2
theorem ob_some {P : List β → Prop} {zs : List β} (h : P zs) : ∀ ys, some zs = some ys → P ys := fun ys e => by cases e; exact h
end
end SM

set_option autoImplicit false
set_option Elab.async false
set_option linter.all false
set_option maxRecDepth 100000
set_option maxHeartbeats 4000000
namespace SM
open PySem PySem.Spec PyProof.Rows L2 GenW
/-! ### a generator expression whose code has a table that is told -/
section
variable {X : Cx} {pins : List (Addr × Obj)} {σ : L2.St} {H : Hp} {s : Shared}
theorem codeT_ne {c P : Addr} {q : Array Value} : CodeT c P ≠ .tbl q := fun z => by unfold CodeT at z; cases z
/-- the code object at c and its empty table at p are new -/
theorem inv_code2 {P c p : Addr} {ps more : Array Value} {h' : Heap} {g' : Array GenState} {d' : Drawn} {t' : Nat} (I : Inv X pins σ H s) (hP : H P = some (.tbl ps)) (k : ∀ b o, b ≠ P → s.heap.get? b = some o → h'.get? b = some o)
    (hm : h'.get? P = some { cls := .none, data := .fields (ps ++ more) }) (hc : s.heap.objs.size ≤ c) (hp : s.heap.objs.size ≤ p) (hcp : c ≠ p) (ho : PySem.W.CodeHd h' c p) (hpo : h'.get? p = some { cls := .none, data := .fields #[] }) (hg : AllBare g') :
    Inv X pins σ (upd (upd (upd H P (.tbl (ps ++ more))) c (CodeT c p)) p (.tbl #[])) { s with heap := h', gens := g', drawn := d', toks := t' } := by
  have nC : H c = none := I.hok.fresh hc
  have nD : H p = none := I.hok.fresh hp
  have nPc : P ≠ c := ne_of_none hP nC
  have nPp : P ≠ p := ne_of_none hP nD
  have at_ : ∀ b, b ≠ P → b ≠ c → b ≠ p → upd (upd (upd H P (.tbl (ps ++ more))) c (CodeT c p)) p (.tbl #[]) b = H b := fun b h1 h2 h3 => by rw [upd_ne h3, upd_ne h2, upd_ne h1]
  have atP : upd (upd (upd H P (.tbl (ps ++ more))) c (CodeT c p)) p (.tbl #[]) P = some (.tbl (ps ++ more)) := by rw [upd_ne nPp, upd_ne nPc, upd_same]
  have nP : ∀ b u, H b = some u → (∀ q, u ≠ .tbl q) → b ≠ P := fun b u e q z => by
    rw [z, hP] at e
    exact q ps (Option.some.inj e).symm
  have nN : ∀ b, H b = none → b ≠ P := fun b e z => by
    rw [z, hP] at e
    cases e
  have lt' : ∀ b o, s.heap.get? b = some o → b ≠ c ∧ b ≠ p := fun b o e => ⟨fun z => by
    rw [z] at e
    exact Nat.lt_irrefl _ (Nat.lt_of_lt_of_le (Heap.lt_size e) hc), fun z => by
    rw [z] at e
    exact Nat.lt_irrefl _ (Nat.lt_of_lt_of_le (Heap.lt_size e) hp)⟩
  have sm : ∀ b u, H b = some u → b ≠ c ∧ b ≠ p := fun b u e => ⟨ne_of_none e nC, ne_of_none e nD⟩
  refine I.step (g' := g') (d' := d') (ch := []) (fun b hb => absurd hb (by simp)) (fun b o _ _ _ e n => k b o (nN b n) e) (fun b o _ _ _ e n => ⟨o.slots, k b o (nN b n) e⟩)
    (fun b o _ e n => by rw [at_ b (nN b n) (lt' b o e).1 (lt' b o e).2]; exact n) (fun b o _ e => ?_) (fun b xs e => by rw [at_ b (nP b _ e (fun q z => by cases z)) (sm b _ e).1 (sm b _ e).2]; exact e) (fun b o u e => by rw [at_ b (nP b _ e (fun q z => by cases z)) (sm b _ e).1 (sm b _ e).2]; exact e) (fun b qs e => ?_) (fun m hn => ?_) (fun b u e => ?_) hg
  · by_cases hb : b = P
    · rw [hb]
      exact ⟨_, hm⟩
    · exact ⟨o, k b o hb e⟩
  · by_cases hb : b = P
    · rw [hb, hP] at e
      cases e
      rw [hb, atP]
      exact ⟨more, rfl⟩
    · rw [at_ b hb (sm b _ e).1 (sm b _ e).2, e]
      exact ⟨#[], by simp⟩
  · obtain ⟨ob, es, ep, ho, r⟩ := hn
    exact ⟨ob, es, ep, k _ ob (nN _ I.free) ho, r⟩
  · by_cases hb3 : b = p
    · rw [hb3, upd_same] at e
      cases e
      rw [hb3]
      exact hpo
    · by_cases hb : b = c
      · rw [hb, upd_ne hcp, upd_same] at e
        cases e
        rw [hb]
        have ho2 := ho
        obtain ⟨o, vs, file, tf, flags, tg, inF, text, tt, e1, er⟩ := ho2
        exact ⟨ho, ⟨o, e1⟩, fun h1 h2 hh st => by
          obtain ⟨o, vs, file, tf, flags, tg, inF, text, tt, e1, er⟩ := hh
          exact ⟨o, vs, file, tf, flags, tg, inF, text, tt, st _ e1, er⟩⟩
      · by_cases hb2 : b = P
        · rw [hb2, atP] at e
          cases e
          rw [hb2]
          exact hm
        · rw [at_ b hb2 hb hb3] at e
          refine (I.hok b u e).stay (fun d v hd q => k d v ?_ q) (fun d q => by rw [at_ d (nP d _ q (fun q z => by cases z)) (sm d _ q).1 (sm d _ q).2]; exact q) fun d xs q => by rw [at_ d (nP d _ q (fun q z => by cases z)) (sm d _ q).1 (sm d _ q).2]; exact q
          rcases hd with z | z
          · rw [z]
            exact hb2
          · exact nP d _ z (fun q z => by cases z)
end
/-- what holds behind the making: the table at P may have grown, the code at c has its own table at p -/
structure Nested (t : Tbs) (P : Addr) (H H' : Hp) (c p : Addr) : Prop where
  code : H' c = some (CodeT c p)
  tab : ∃ ps : Array Value, H' p = some (.tbl ps) ∧ TriplesOk ps.toList
  ext : Ext t H H'
  apart : (∀ q ∈ t.T, q.1 ≠ p) ∧ p ∉ t.N
end SM

set_option autoImplicit false
set_option Elab.async false
set_option linter.all false
set_option maxRecDepth 100000
set_option maxHeartbeats 4000000
namespace SM
open PySem PySem.Spec PyProof.Rows L2 GenW
def tGxO (t : Tbs) (al : Bool) (P : Addr) (wi : TI) (g : Addr → TG) (tt : Addr → TT) (te : Addr → TE) (vs : List Nat) : TE := fun σ H Q => wi σ H fun J H1 => LamOk t H1 ∧ ∀ (H2 : Hp) (c p : Addr), Nested t P H1 H2 c p → ∃ W : Nat → Nat → Hp → Prop, (∃ m, W 0 m H2) ∧ GxTurn J al (g c) (tt c) (te c) vs σ Q W
theorem nested_new {t : Tbs} {P c p : Addr} {H : Hp} {ps : Array Value} {pos : Pos} (hm : P ∈ t.N) (hP : H P = some (.tbl ps)) (nC : H c = none) (nD : H p = none) (hcp : c ≠ p) (ht : TriplesOk ps.toList) (L : LamOk t H) :
    Nested t P H (upd (upd (upd H P (.tbl (ps ++ #[rawInt pos.line, rawInt pos.col, .ref c]))) c (CodeT c p)) p (.tbl #[])) c p := by
  have nPc : P ≠ c := ne_of_none hP nC
  have nPp : P ≠ p := ne_of_none hP nD
  have eL : (ps ++ #[rawInt pos.line, rawInt pos.col, .ref c]).toList = ps.toList ++ [rawInt pos.line, rawInt pos.col, .ref c] := by simp
  have snoc : TriplesOk (ps ++ #[rawInt pos.line, rawInt pos.col, .ref c]).toList := by rw [eL]; exact PySem.TriplesOk_snoc _ _ _ _ ht
  have atC : upd (upd (upd H P (.tbl (ps ++ #[rawInt pos.line, rawInt pos.col, .ref c]))) c (CodeT c p)) p (.tbl #[]) c = some (CodeT c p) := by rw [upd_ne hcp, upd_same]
  have atP : upd (upd (upd H P (.tbl (ps ++ #[rawInt pos.line, rawInt pos.col, .ref c]))) c (CodeT c p)) p (.tbl #[]) P = some (.tbl (ps ++ #[rawInt pos.line, rawInt pos.col, .ref c])) := by rw [upd_ne nPp, upd_ne nPc, upd_same]
  have atE : ∀ b o, b ≠ P → H b = some o → upd (upd (upd H P (.tbl (ps ++ #[rawInt pos.line, rawInt pos.col, .ref c]))) c (CodeT c p)) p (.tbl #[]) b = some o := fun b o hb e => by
    rw [upd_ne (ne_of_none e nD), upd_ne (ne_of_none e nC), upd_ne hb]; exact e
  have kp : ∀ b o, H b = some o → (∀ z, o ≠ .tbl z) → upd (upd (upd H P (.tbl (ps ++ #[rawInt pos.line, rawInt pos.col, .ref c]))) c (CodeT c p)) p (.tbl #[]) b = some o := fun b o e n => by
    refine atE b o (fun z => ?_) e
    rw [z, hP] at e
    exact n ps (Option.some.inj e).symm
  have tb : ∀ a xs, H a = some (.tbl xs) → ∃ ys, upd (upd (upd H P (.tbl (ps ++ #[rawInt pos.line, rawInt pos.col, .ref c]))) c (CodeT c p)) p (.tbl #[]) a = some (.tbl ys) ∧ (TriplesOk xs.toList → TriplesOk ys.toList) := fun a xs e => by
    by_cases ha : a = P
    · subst ha
      exact ⟨_, atP, fun _ => snoc⟩
    · exact ⟨xs, atE _ _ ha e, id⟩
  have ap : (∀ q ∈ t.T, q.1 ≠ p) ∧ p ∉ t.N := by
    constructor
    · intro q hq z
      obtain ⟨xs, h1, _⟩ := L.1 q hq
      rw [z, nD] at h1
      cases h1
    · intro z
      obtain ⟨xs, h1, _⟩ := L.2 p z
      rw [nD] at h1
      cases h1
  refine ⟨atC, ⟨#[], upd_same, trivial⟩, ⟨kp, tb, fun L => ⟨fun q hq => ?_, fun Q hQ => ?_⟩⟩, ap⟩
  · obtain ⟨xs, h1, h2, h3⟩ := L.1 q hq
    refine ⟨xs, atE _ _ (fun z => t.dN q hq (z ▸ hm)) h1, h2, fun pos cv hv => ?_⟩
    obtain ⟨c0, e1, e2⟩ := h3 pos cv hv
    exact ⟨c0, e1, kp _ _ e2 LamX.codeO_ne⟩
  · obtain ⟨xs, h1, h2, h3⟩ := L.2 Q hQ
    by_cases hQP : Q = P
    · subst hQP
      rw [hP] at h1
      cases h1
      refine ⟨_, atP, snoc, fun p' cv hv => ?_⟩
      rw [eL] at hv
      rcases LamX.among_app _ h2 hv with z | z
      · obtain ⟨c0, P', e1, e2, ys, e3, e4⟩ := h3 p' cv z
        obtain ⟨zs, f1, f2⟩ := tb _ _ e3
        exact ⟨c0, P', e1, kp _ _ e2 (fun z => codeT_ne), zs, f1, f2 e4.1, e4.2⟩
      · exact ⟨c, p, z, atC, #[], upd_same, trivial, ap⟩
    · refine ⟨xs, atE _ _ hQP h1, h2, fun pos cv hv => ?_⟩
      obtain ⟨c0, P', e1, e2, ys, e3, e4⟩ := h3 pos cv hv
      obtain ⟨zs, f1, f2⟩ := tb _ _ e3
      exact ⟨c0, P', e1, kp _ _ e2 (fun z => codeT_ne), zs, f1, f2 e4.1, e4.2⟩
section
variable {X : Cx} {pins : List (Addr × Obj)} {σ : L2.St} {H : Hp} {s : Shared}
theorem gx_madeO {tb : Tbs} {c P : Addr} {elt tg iter : Expr} {ifs : List Expr} {scope : Scope} {own : List (Str × Nat)} {gpos : Pos} {al : Bool} {Q : VK} {wi : TI} {g : Addr → TG} {tt : Addr → TT} {te : Addr → TE} {Q' : Value → Shared → Prop}
    (hc : X.calm = true) (hN : X.N.Nodup) (hr : X.A.depth < recursionLimit) (TB : GxR.TabB X.base X.mg c P) (hcode : X.env.code = .ref c) (hm : P ∈ tb.N) (ok : GxOk X.N X.env.scope scope own) (hi : PI X tg iter wi)
    (hgte : ∀ (s : Shared) (H : Hp) (cl : List (Str × Addr)) (C : Addr) (code : Addr) (fp : List Addr) (pn : List (Addr × Obj)), PG (gxC X s H (genEnv scope cl C (.ref code) builtinsNs X.env) fp (X.A.in1.in1.deeper (genEnv scope cl C (.ref code) builtinsNs X.env)) pn) tg (g code) ∧
      PTs (gxC X s H (genEnv scope cl C (.ref code) builtinsNs X.env) fp (X.A.in1.in1.deeper (genEnv scope cl C (.ref code) builtinsNs X.env)) pn) ifs (tt code) ∧ PE (gxC X s H (genEnv scope cl C (.ref code) builtinsNs X.env) fp (X.A.in1.in1.deeper (genEnv scope cl C (.ref code) builtinsNs X.env)) pn) elt (te code))
    (hs : ∀ v, genFold iter X.env v = pure v) (I : Inv X pins σ H s) (h : tGxO tb al P wi g tt te (own.map (·.2)) σ H Q)
    (hQ : ∀ s3 H3 fp a gi m s5, Inv X pins σ H3 s3 → (∀ b ∈ fp, FpOk X pins H3 b) → GxZ X s3 H3 fp a gi al Q m s5 → Q' (.ref a) s5) :
    wpAny (model X.prog X.w) X.A (eval (.GeneratorExp elt [⟨tg, iter, ifs, 0⟩] scope gpos) X.env) Q' X.xe s := by
  have hfree : ∀ y ∈ scope.names, y.2 = .free → ∃ c, X.env.cells.lookup y.1 = some c := fun y hy e => by
    rcases ok.free y hy e with k | k
    · exact I.ok.has _ (.inl k)
    · exact I.ok.has _ (.inr k)
  refine wpAny_GeneratorExp_make ok.co (closure_ok hfree) ok.nocell ok.dot ok.kind hr (thn (hi.run pins s σ H _ I h) fun xv s1 hx => thn hx fun itv s2 h2 => ?_) hs
  obtain ⟨it, fp, tn, J, H1, rfl, I1, T, st1, f1, hlam, q⟩ := h2
  obtain ⟨ps, hP, ht, hnest⟩ := hlam.2 P hm
  refine ⟨I1.nolimit, ?_⟩
  have hPs : s2.heap.get? P = some { cls := .none, data := .fields ps } := I1.hok P _ hP
  have hPlt : P < s2.heap.objs.size := Heap.lt_size hPs
  have cd : PySem.W.CodeHd s2.heap c P := TB.code.keeps I1.bk
  have fpP : ∀ b ∈ fp, b ≠ P := fun b hb z => by
    have := (f1 b hb).1
    rw [z, hP] at this; cases this
  have cont : ∀ (c1 p1 : Addr) (h3 : Heap) (tk : Nat) (H2 : Hp), Inv X pins σ H2 { s2 with heap := h3, toks := tk } → Nested tb P H1 H2 c1 p1 → (∀ b o, b ≠ P → s2.heap.get? b = some o → h3.get? b = some o) → (∀ b, b < s2.heap.objs.size → H1 b = none → H2 b = none) →
      wpAny (model X.prog X.w) X.A (builtinsFor X.env.globals X.env.builtins) (fun bi s₄ => ∀ h', h'.Ns s₄.heap.objs.size (fun y => if y = ".0" then some (.ref it) else none) → Heap.SameBut s₄.heap.objs.size (s₄.heap.push { cls := .type "frame", data := .dict #[] }) h' →
          Q' (.ref h'.objs.size) { s₄ with
            gens := s₄.gens.push (.fresh (.compStart (.GeneratorExp elt [⟨tg, iter, ifs, 0⟩] scope gpos) 0 (.ref it) .none (genEnv scope (cloFrom X.env.cells scope.names []) s₄.heap.objs.size (.ref c1) bi X.env))),
            toks := s₄.toks + 1 + 1 + 1,
            heap := h'.push { cls := .type "generator", data := .fields #[.int s₄.gens.size 0, .str "<genexpr>" (s₄.toks + 1), .str (X.env.qual ++ "<genexpr>") (s₄.toks + 1 + 1)] } }) X.xe { s2 with heap := h3, toks := tk } := by
    intro c1 p1 h3 tk H2 I3 hnst keep3 hfr
    obtain ⟨bm, ob, e1, e2, e3, e4, e5, e6, e7, e8⟩ := TB.bm
    refine wpAny_builtinsFor (m := X.mg) (by rw [I1.ok.glob]; exact (I1.mod.glob.keeps I1.bk).extBut keep3 TB.gP) e1 e2 (keep3 _ _ e4 (I1.bk _ _ e5)) e6 e7 e8 ?_
    obtain ⟨W, ⟨m0, w0⟩, turn⟩ := q H2 c1 p1 hnst
    have sz : ∀ b ∈ fp, b < s2.heap.objs.size := fun b hb => by
      obtain ⟨ob, e, _⟩ := T.obj _ _ st1 b hb
      exact Heap.lt_size e
    have f3 : ∀ b ∈ fp, FpOk X pins H2 b := fun b hb => ⟨hfr b (sz b hb) (f1 b hb).1, (f1 b hb).2⟩
    have st3 : tn 0 h3 := T.keep _ _ _ st1 fun b hb o e => keep3 b o (fpP b hb) e
    have fl : ∀ b ∈ fp, b < h3.objs.size := fun b hb => by
      obtain ⟨o, e, _⟩ := T.obj _ _ st3 b hb
      exact Heap.lt_size e
    intro h' hn' hs'
    have hsz' : h'.objs.size = h3.objs.size + 1 := by rw [hs'.1, Heap.size_push]
    have keep' : ∀ b o, h3.get? b = some o → h'.get? b = some o := fun b o e => hs'.extBut b o (Nat.ne_of_lt (Heap.lt_size e)) (Heap.get?_push_of_some _ e)
    generalize hgob : ({ cls := .type "generator", data := .fields #[.int s2.gens.size 0, .str "<genexpr>" (tk + 1), .str (X.env.qual ++ "<genexpr>") (tk + 1 + 1)] } : Obj) = gob
    have hkgo : ∃ nm qn, gob = { cls := .type "generator", dict := none, data := .fields #[.int s2.gens.size 0, nm, qn], slots := #[] } ∧ ∀ h : Heap, h.get? h'.objs.size = some gob → h.IsGen h'.objs.size s2.gens.size :=
      ⟨_, _, hgob.symm, fun h e => by rw [← hgob] at e; exact ⟨_, _, _, e, rfl, rfl, rfl⟩⟩
    have hb5 : AllBare (s2.gens.push (.fresh (.compStart (.GeneratorExp elt [⟨tg, iter, ifs, 0⟩] scope gpos) 0 (.ref it) .none (genEnv scope (cloFrom X.env.cells scope.names []) h3.objs.size (.ref c1) builtinsNs X.env)))) := I1.bare.push rfl
    have I5 := gx_start (scope := scope) (own := own) (fp := fp) (code := .ref c1) (A' := X.A.in1.in1.over (.compLoop (.GeneratorExp elt [⟨tg, iter, ifs, 0⟩] scope gpos) 0 (.ref it) .none (genEnv scope (cloFrom X.env.cells scope.names []) h3.objs.size (.ref c1) builtinsNs X.env)) [])
      (h5 := h'.push gob) (tk := tk + 1 + 1 + 1) (go := gob) (a := h'.objs.size) I3 ok hN (fun b hb => ⟨f3 b hb, fl b hb⟩) (by rw [over_gx]; exact Around.frames_deeper I.ok.frames) (fun hc => I.ok.hd hc) (fun b o e => Heap.get?_push_of_some _ (keep' b o e)) (hn'.push _) hb5 (by rw [← hgob]; exact Heap.get?_push_size _ rfl) (by rw [hsz']; exact Nat.lt_succ_self _) (fun v z => by rw [← hgob] at z; cases z)
    refine hQ _ _ fp h'.objs.size s2.gens.size (m0 + 1) _ I3 f3 ⟨(by obtain ⟨_, _, _, hk9⟩ := hkgo; exact hk9 _ (by rw [← hgob]; exact Heap.get?_push_size _ rfl)), I5.nolimit, hb5, _, Array.getElem?_push_size .., rfl, ?_⟩
    obtain ⟨pg, pt, pe⟩ := hgte { s2 with heap := h3, toks := tk } H2 (cloFrom X.env.cells scope.names []) h3.objs.size c1 fp [(h'.objs.size, gob)]
    rw [← over_gx (A := X.A.in1.in1) (elt := elt) (gs := [⟨tg, iter, ifs, 0⟩]) (scope := scope) (gpos := gpos) (it := it)] at pg pt pe
    have hnf : ∀ b ∈ fp, H2 b = none := fun b hb => (f3 b hb).1
    have st5 : tn 0 (h'.push gob) := T.keep _ _ _ st3 fun b _ o e => Heap.get?_push_of_some _ (keep' b o e)
    have loop := gx_seg (A2 := X.A.in1.in1) (al := al) (Q := Q) (gpos := gpos) (scope := scope) (iter := iter) (it := it) (gi := s2.gens.size) hc (show (genEnv scope (cloFrom X.env.cells scope.names []) h3.objs.size (.ref c1) builtinsNs X.env).scope.isCoroutine = false from ok.co) hkgo T pg pt pe (fun b hb z => by have q9 := fl b hb; rw [z, hsz'] at q9; exact absurd q9 (Nat.not_lt.mpr (Nat.le_succ _))) turn
    generalize hss : Shared.setGen _ s2.gens.size .running = ss
    have I6 : Inv _ [] (wipe σ (own.map (·.2))) H2 ss := Inv_regen I5 (by rw [← hss]; rfl) (by rw [← hss]; rfl) (by rw [← hss]; exact allBare_setGen hb5 rfl)
    have st6 : tn 0 ss.heap := by rw [← hss]; exact st5
    have loop := loop m0 (m0 + 1) 0 ss ss _ (Nat.lt_succ_self _) I6 st6 hnf w0
    show Seg _ X.A.in1.in1 _ _ _ ss _ ((compStart (.GeneratorExp elt [⟨tg, iter, ifs, 0⟩] scope gpos) 0 (.ref it) .none (genEnv scope (cloFrom X.env.cells scope.names []) h3.objs.size (.ref c1) builtinsNs X.env)).onRaise (leaving _)) [] ss
    unfold compStart
    rw [Sem.onRaise_eq_wrap]
    show Seg _ X.A.in1.in1 _ _ _ ss _ ((ask >>= _).wrap _ _ _ _) [] ss
    refine seg_bind_wrap (wpAny_askSetting ?_)
    split
    · exact seg_again rfl loop
    · first
        | exact seg_bind_wrap (wpAny_rule (seg_bind_wrap (wpAny_standAt (seg_bind_wrap (T.self _ 0 ss _ _ st6 (seg_again rfl loop))))))
        | (refine seg_bind_wrap (wpAny_rule ?_); show Seg _ X.A.in1.in1 _ _ _ ss _ ((standAt iter.pos >>= _).wrap _ _ _ _) [] ss; exact seg_bind_wrap (wpAny_standAt (seg_bind_wrap (T.self _ 0 ss _ _ st6 (seg_again rfl loop)))))
  cases hf : codeAmong gpos ps.toList with
  | none =>
    refine wpAny_genexprCodeX hcode (cd.code hPs ht) (cd.tab hPs) hf fun c' h' tk hx hge hlt hco' _ htab' hnew => ?_
    obtain ⟨p', hge2, hic, hta⟩ := hnew
    have nC : H1 c' = none := I1.hok.fresh hge
    have nD : H1 p' = none := I1.hok.fresh hge2
    have hcp : c' ≠ p' := by
      obtain ⟨o1, vs, f1', tf, fl, tg', inF, tx, tt', op, _, _, _, _, _, _, _, _, _, _, hne⟩ := hic
      exact hne
    have eL : (ps ++ #[rawInt gpos.line, rawInt gpos.col, .ref c']).toList = ps.toList ++ [rawInt gpos.line, rawInt gpos.col, .ref c'] := by simp
    have I3 := inv_code2 (g' := s2.gens) (d' := s2.drawn) (t' := tk) I1 hP (fun b o hb e => hx b o hb e) htab'.2 hge hge2 hcp (PySem.W.CodeHd.of hic hta) hta.2 I1.bare
    have nPc : P ≠ c' := ne_of_none hP nC
    have nPp : P ≠ p' := ne_of_none hP nD
    refine cont c' p' h' tk _ I3 ?_ (fun b o hb e => hx b o hb e) (fun b hb e => ?_)
    · exact nested_new hm hP nC nD hcp ht hlam
    · rw [upd_ne (fun z => by rw [z] at hb; exact Nat.lt_irrefl _ (Nat.lt_of_lt_of_le hb hge2)), upd_ne (fun z => by rw [z] at hb; exact Nat.lt_irrefl _ (Nat.lt_of_lt_of_le hb hge)), upd_ne (fun z => by rw [z, hP] at e; cases e)]
      exact e
  | some cv =>
    obtain ⟨c', p', ecv, hc2, ps2, hp2, ht2, hap⟩ := hnest gpos cv hf
    subst ecv
    refine wpAny_genexprCode_hit hcode (cd.code hPs ht) hf ?_
    exact cont c' p' s2.heap s2.toks H1 I1 ⟨hc2, ⟨ps2, hp2, ht2⟩, Ext.refl _, hap⟩ (fun b o _ e => e) fun b _ e => e
def tGxN (al : Bool) (c P : Addr) (wi : TI) (g : Value → TG) (tt : Value → TT) (te : Value → TE) (vs : List Nat) : TE := fun σ H Q => wi σ H fun J H1 => H1 c = some (CodeT c P) ∧ GxR.TabG H1 P ∧ ∀ H2, GxR.Tabbed P H1 H2 → ∀ code, ∃ W : Nat → Nat → Hp → Prop, (∃ m, W 0 m H2) ∧ GxTurn J al (g code) (tt code) (te code) vs σ Q W
theorem gx_madeN {c P : Addr} {elt tg iter : Expr} {ifs : List Expr} {scope : Scope} {own : List (Str × Nat)} {gpos : Pos} {al : Bool} {Q : VK} {wi : TI} {g : Value → TG} {tt : Value → TT} {te : Value → TE} {Q' : Value → Shared → Prop}
    (hc : X.calm = true) (hN : X.N.Nodup) (hr : X.A.depth < recursionLimit) (TB : ∃ c0 P0, GxR.TabB X.base X.mg c0 P0) (hcode : X.env.code = .ref c) (ok : GxOk X.N X.env.scope scope own) (hi : PI X tg iter wi)
    (hgte : ∀ (s : Shared) (H : Hp) (cl : List (Str × Addr)) (C : Addr) (code : Value) (fp : List Addr) (pn : List (Addr × Obj)), PG (gxC X s H (genEnv scope cl C code builtinsNs X.env) fp (X.A.in1.in1.deeper (genEnv scope cl C code builtinsNs X.env)) pn) tg (g code) ∧
      PTs (gxC X s H (genEnv scope cl C code builtinsNs X.env) fp (X.A.in1.in1.deeper (genEnv scope cl C code builtinsNs X.env)) pn) ifs (tt code) ∧ PE (gxC X s H (genEnv scope cl C code builtinsNs X.env) fp (X.A.in1.in1.deeper (genEnv scope cl C code builtinsNs X.env)) pn) elt (te code))
    (hs : ∀ v, genFold iter X.env v = pure v) (I : Inv X pins σ H s) (h : tGxN al c P wi g tt te (own.map (·.2)) σ H Q)
    (hQ : ∀ s3 H3 fp a gi m s5, Inv X pins σ H3 s3 → (∀ b ∈ fp, FpOk X pins H3 b) → GxZ X s3 H3 fp a gi al Q m s5 → Q' (.ref a) s5) :
    wpAny (model X.prog X.w) X.A (eval (.GeneratorExp elt [⟨tg, iter, ifs, 0⟩] scope gpos) X.env) Q' X.xe s := by
  have hfree : ∀ y ∈ scope.names, y.2 = .free → ∃ c, X.env.cells.lookup y.1 = some c := fun y hy e => by
    rcases ok.free y hy e with k | k
    · exact I.ok.has _ (.inl k)
    · exact I.ok.has _ (.inr k)
  refine wpAny_GeneratorExp_make ok.co (closure_ok hfree) ok.nocell ok.dot ok.kind hr (thn (hi.run pins s σ H _ I h) fun xv s1 hx => thn hx fun itv s2 h2 => ?_) hs
  obtain ⟨it, fp, tn, J, H1, rfl, I1, T, st1, f1, hcd, ⟨ps, hP, ht⟩, q⟩ := h2
  obtain ⟨c0, P0, TB⟩ := TB
  refine ⟨I1.nolimit, ?_⟩
  have hPs : s2.heap.get? P = some { cls := .none, data := .fields ps } := I1.hok P _ hP
  have hPlt : P < s2.heap.objs.size := Heap.lt_size hPs
  have cd : PySem.W.CodeHd s2.heap c P := (I1.hok c _ hcd).1
  have gP : mainGlobals ≠ P := fun z => by
    obtain ⟨od, es, ep, g1, g2, g3, _⟩ := I1.mod.glob.keeps I1.bk
    rw [z, hPs] at g1
    cases g1
    cases g2
  have fpP : ∀ b ∈ fp, b ≠ P := fun b hb z => by
    have := (f1 b hb).1
    rw [z, hP] at this; cases this
  have cont : ∀ (code : Value) (h3 : Heap) (tk : Nat) (ps' : Array Value), Heap.ExtBut P s2.heap h3 → s2.heap.objs.size ≤ h3.objs.size → h3.get? P = some { cls := .none, data := .fields ps' } → (∃ more, ps' = ps ++ more) → TriplesOk ps'.toList →
      wpAny (model X.prog X.w) X.A (builtinsFor X.env.globals X.env.builtins) (fun bi s₄ => ∀ h', h'.Ns s₄.heap.objs.size (fun y => if y = ".0" then some (.ref it) else none) → Heap.SameBut s₄.heap.objs.size (s₄.heap.push { cls := .type "frame", data := .dict #[] }) h' →
          Q' (.ref h'.objs.size) { s₄ with
            gens := s₄.gens.push (.fresh (.compStart (.GeneratorExp elt [⟨tg, iter, ifs, 0⟩] scope gpos) 0 (.ref it) .none (genEnv scope (cloFrom X.env.cells scope.names []) s₄.heap.objs.size code bi X.env))),
            toks := s₄.toks + 1 + 1 + 1,
            heap := h'.push { cls := .type "generator", data := .fields #[.int s₄.gens.size 0, .str "<genexpr>" (s₄.toks + 1), .str (X.env.qual ++ "<genexpr>") (s₄.toks + 1 + 1)] } }) X.xe { s2 with heap := h3, toks := tk } := by
    intro code h3 tk ps' hx hsz hP3 hmore ht3
    obtain ⟨bm, ob, e1, e2, e3, _, e5, e6, e7, e8⟩ := TB.bm
    have e4 : bm ≠ P := fun z => by
      have := I1.bk _ _ e5
      rw [z, hPs] at this
      cases this
      cases e6
    have keep3 : ∀ b u, b ≠ P → s2.heap.get? b = some u → h3.get? b = some u := fun b u hb e => hx b u hb e
    refine wpAny_builtinsFor (m := X.mg) (by rw [I1.ok.glob]; exact (I1.mod.glob.keeps I1.bk).extBut hx gP) e1 e2 (keep3 _ _ e4 (I1.bk _ _ e5)) e6 e7 e8 ?_
    obtain ⟨more, rfl⟩ := hmore
    have I3 := GxR.inv_tab (more := more) (h' := h3) (g' := s2.gens) (d' := s2.drawn) (t' := tk) I1 hP keep3 hP3 I1.bare
    obtain ⟨W, ⟨m0, w0⟩, turn⟩ := q (upd H1 P (.tbl (ps ++ more))) ⟨⟨_, upd_same, ht3⟩, fun b hb => upd_ne hb⟩ code
    have f3 : ∀ b ∈ fp, FpOk X pins (upd H1 P (.tbl (ps ++ more))) b := fun b hb => ⟨by rw [upd_ne (fpP b hb)]; exact (f1 b hb).1, (f1 b hb).2⟩
    have st3 : tn 0 h3 := T.keep _ _ _ st1 fun b hb o e => keep3 b o (fpP b hb) e
    have fl : ∀ b ∈ fp, b < h3.objs.size := fun b hb => by
      obtain ⟨o, e, _⟩ := T.obj _ _ st3 b hb
      exact Heap.lt_size e
    intro h' hn' hs'
    have hsz' : h'.objs.size = h3.objs.size + 1 := by rw [hs'.1, Heap.size_push]
    have keep' : ∀ b o, h3.get? b = some o → h'.get? b = some o := fun b o e => hs'.extBut b o (Nat.ne_of_lt (Heap.lt_size e)) (Heap.get?_push_of_some _ e)
    generalize hgob : ({ cls := .type "generator", data := .fields #[.int s2.gens.size 0, .str "<genexpr>" (tk + 1), .str (X.env.qual ++ "<genexpr>") (tk + 1 + 1)] } : Obj) = gob
    have hkgo : ∃ nm qn, gob = { cls := .type "generator", dict := none, data := .fields #[.int s2.gens.size 0, nm, qn], slots := #[] } ∧ ∀ h : Heap, h.get? h'.objs.size = some gob → h.IsGen h'.objs.size s2.gens.size :=
      ⟨_, _, hgob.symm, fun h e => by rw [← hgob] at e; exact ⟨_, _, _, e, rfl, rfl, rfl⟩⟩
    have hb5 : AllBare (s2.gens.push (.fresh (.compStart (.GeneratorExp elt [⟨tg, iter, ifs, 0⟩] scope gpos) 0 (.ref it) .none (genEnv scope (cloFrom X.env.cells scope.names []) h3.objs.size code builtinsNs X.env)))) := I1.bare.push rfl
    have I5 := gx_start (scope := scope) (own := own) (fp := fp) (code := code) (A' := X.A.in1.in1.over (.compLoop (.GeneratorExp elt [⟨tg, iter, ifs, 0⟩] scope gpos) 0 (.ref it) .none (genEnv scope (cloFrom X.env.cells scope.names []) h3.objs.size code builtinsNs X.env)) [])
      (h5 := h'.push gob) (tk := tk + 1 + 1 + 1) (go := gob) (a := h'.objs.size) I3 ok hN (fun b hb => ⟨f3 b hb, fl b hb⟩) (by rw [over_gx]; exact Around.frames_deeper I.ok.frames) (fun hc => I.ok.hd hc) (fun b o e => Heap.get?_push_of_some _ (keep' b o e)) (hn'.push _) hb5 (by rw [← hgob]; exact Heap.get?_push_size _ rfl) (by rw [hsz']; exact Nat.lt_succ_self _) (fun v z => by rw [← hgob] at z; cases z)
    refine hQ _ _ fp h'.objs.size s2.gens.size (m0 + 1) _ I3 f3 ⟨(by obtain ⟨_, _, _, hk9⟩ := hkgo; exact hk9 _ (by rw [← hgob]; exact Heap.get?_push_size _ rfl)), I5.nolimit, hb5, _, Array.getElem?_push_size .., rfl, ?_⟩
    obtain ⟨pg, pt, pe⟩ := hgte { s2 with heap := h3, toks := tk } (upd H1 P (.tbl (ps ++ more))) (cloFrom X.env.cells scope.names []) h3.objs.size code fp [(h'.objs.size, gob)]
    rw [← over_gx (A := X.A.in1.in1) (elt := elt) (gs := [⟨tg, iter, ifs, 0⟩]) (scope := scope) (gpos := gpos) (it := it)] at pg pt pe
    have hnf : ∀ b ∈ fp, (upd H1 P (.tbl (ps ++ more))) b = none := fun b hb => (f3 b hb).1
    have st5 : tn 0 (h'.push gob) := T.keep _ _ _ st3 fun b _ o e => Heap.get?_push_of_some _ (keep' b o e)
    have loop := gx_seg (A2 := X.A.in1.in1) (al := al) (Q := Q) (gpos := gpos) (scope := scope) (iter := iter) (it := it) (gi := s2.gens.size) hc (show (genEnv scope (cloFrom X.env.cells scope.names []) h3.objs.size code builtinsNs X.env).scope.isCoroutine = false from ok.co) hkgo T pg pt pe (fun b hb z => by have q9 := fl b hb; rw [z, hsz'] at q9; exact absurd q9 (Nat.not_lt.mpr (Nat.le_succ _))) turn
    generalize hss : Shared.setGen _ s2.gens.size .running = ss
    have I6 : Inv _ [] (wipe σ (own.map (·.2))) (upd H1 P (.tbl (ps ++ more))) ss := Inv_regen I5 (by rw [← hss]; rfl) (by rw [← hss]; rfl) (by rw [← hss]; exact allBare_setGen hb5 rfl)
    have st6 : tn 0 ss.heap := by rw [← hss]; exact st5
    have loop := loop m0 (m0 + 1) 0 ss ss _ (Nat.lt_succ_self _) I6 st6 hnf w0
    show Seg _ X.A.in1.in1 _ _ _ ss _ ((compStart (.GeneratorExp elt [⟨tg, iter, ifs, 0⟩] scope gpos) 0 (.ref it) .none (genEnv scope (cloFrom X.env.cells scope.names []) h3.objs.size code builtinsNs X.env)).onRaise (leaving _)) [] ss
    unfold compStart
    rw [Sem.onRaise_eq_wrap]
    show Seg _ X.A.in1.in1 _ _ _ ss _ ((ask >>= _).wrap _ _ _ _) [] ss
    refine seg_bind_wrap (wpAny_askSetting ?_)
    split
    · exact seg_again rfl loop
    · first
        | exact seg_bind_wrap (wpAny_rule (seg_bind_wrap (wpAny_standAt (seg_bind_wrap (T.self _ 0 ss _ _ st6 (seg_again rfl loop))))))
        | (refine seg_bind_wrap (wpAny_rule ?_); show Seg _ X.A.in1.in1 _ _ _ ss _ ((standAt iter.pos >>= _).wrap _ _ _ _) [] ss; exact seg_bind_wrap (wpAny_standAt (seg_bind_wrap (T.self _ 0 ss _ _ st6 (seg_again rfl loop)))))
  cases hf : codeAmong gpos ps.toList with
  | none =>
    refine wpAny_genexprCodeX hcode (cd.code hPs ht) (cd.tab hPs) hf fun c' h' tk hx hge hlt hco' _ htab' _ => ?_
    obtain ⟨o1, vs, f1', tf, fl, tg', inF, tx, tt', op, _, _, _, _, _, _, _, _, _, htr, _⟩ := hco'
    exact cont _ h' tk _ hx (Nat.le_trans hge (Nat.le_of_lt hlt)) htab'.2 ⟨_, rfl⟩ htr
  | some cv =>
    refine wpAny_genexprCode_hit hcode (cd.code hPs ht) hf ?_
    exact cont cv s2.heap s2.toks ps (Heap.ExtBut.refl _ _) (Nat.le_refl _) hPs ⟨#[], by simp⟩ ht
end
end SM

set_option autoImplicit false
set_option Elab.async false
set_option linter.all false
set_option maxRecDepth 100000
set_option maxHeartbeats 4000000
namespace SM
open PySem PySem.Spec PyProof.Rows L2 GenW
section
variable {X : Cx}
theorem pe_gxAllO {tb : Tbs} {c P : Addr} {elt tg iter : Expr} {ifs : List Expr} {scope : Scope} {own : List (Str × Nat)} {p pos gpos : Pos} {wi : TI} {g : Addr → TG} {tt : Addr → TT} {te : Addr → TE} {k : Nat}
    (hc : X.calm = true) (hN : X.N.Nodup) (hr : Room k X.A) (hg : Gl X "all") (hm : X.mg "all" = none) (TB : GxR.TabB X.base X.mg c P) (hcode : X.env.code = .ref c) (hmN : P ∈ tb.N) (ok : GxOk X.N X.env.scope scope own) (hi : PI X tg iter wi)
    (hgte : ∀ (s : Shared) (H : Hp) (cl : List (Str × Addr)) (C : Addr) (code : Addr) (fp : List Addr) (pn : List (Addr × Obj)), PG (gxC X s H (genEnv scope cl C (.ref code) builtinsNs X.env) fp (X.A.in1.in1.deeper (genEnv scope cl C (.ref code) builtinsNs X.env)) pn) tg (g code) ∧
      PTs (gxC X s H (genEnv scope cl C (.ref code) builtinsNs X.env) fp (X.A.in1.in1.deeper (genEnv scope cl C (.ref code) builtinsNs X.env)) pn) ifs (tt code) ∧ PE (gxC X s H (genEnv scope cl C (.ref code) builtinsNs X.env) fp (X.A.in1.in1.deeper (genEnv scope cl C (.ref code) builtinsNs X.env)) pn) elt (te code))
    (hs : ∀ v, genFold iter X.env v = pure v) (he : starEach [.GeneratorExp elt [⟨tg, iter, ifs, 0⟩] scope gpos] X.env = (false, eval (.GeneratorExp elt [⟨tg, iter, ifs, 0⟩] scope gpos) X.env) :: starEach [] X.env) :
    PE X (.Call (.Name "all" p) [.GeneratorExp elt [⟨tg, iter, ifs, 0⟩] scope gpos] [] pos) (tGxO tb true P wi g tt te (own.map (·.2))) := by
  refine ⟨fun pins s σ H Q I h => ?_⟩
  refine wpAny_Call_Name_kw (ld_blt I hg hm boot_all ?_)
  refine PyProof.Rows.callWith_builtin1 ?_ he (by rfl)
  rw [he]
  show wpAny _ _ (spliced ((false, eval (.GeneratorExp elt [⟨tg, iter, ifs, 0⟩] scope gpos) X.env) :: backTo pos (starEach [] X.env))) _ _ s
  have hd : X.A.depth < recursionLimit := by have := hr.dp; omega
  refine Calls.spliced_cons (gx_madeO (al := true) (Q := Q) hc hN hd TB hcode hmN ok hi hgte hs I h fun s3 H3 fp a gi m s5 I3 f3 Z => ?_)
  refine Calls.spliced_nil ?_
  refine call_allI Z.1 (all_loopI (GxZ X s3 H3 fp a gi true Q) (fun m s hz => wpAny_mono (gx_step hr.hd hd I3 f3 m s hz) (fun o s' q => ?_) fun _ _ e => e) m s5 Z)
  cases o with
  | none => exact q
  | some v => exact q
theorem pe_gxAnyO {tb : Tbs} {c P : Addr} {elt tg iter : Expr} {ifs : List Expr} {scope : Scope} {own : List (Str × Nat)} {p pos gpos : Pos} {wi : TI} {g : Addr → TG} {tt : Addr → TT} {te : Addr → TE} {k : Nat}
    (hc : X.calm = true) (hN : X.N.Nodup) (hr : Room k X.A) (hg : Gl X "any") (hm : X.mg "any" = none) (TB : GxR.TabB X.base X.mg c P) (hcode : X.env.code = .ref c) (hmN : P ∈ tb.N) (ok : GxOk X.N X.env.scope scope own) (hi : PI X tg iter wi)
    (hgte : ∀ (s : Shared) (H : Hp) (cl : List (Str × Addr)) (C : Addr) (code : Addr) (fp : List Addr) (pn : List (Addr × Obj)), PG (gxC X s H (genEnv scope cl C (.ref code) builtinsNs X.env) fp (X.A.in1.in1.deeper (genEnv scope cl C (.ref code) builtinsNs X.env)) pn) tg (g code) ∧
      PTs (gxC X s H (genEnv scope cl C (.ref code) builtinsNs X.env) fp (X.A.in1.in1.deeper (genEnv scope cl C (.ref code) builtinsNs X.env)) pn) ifs (tt code) ∧ PE (gxC X s H (genEnv scope cl C (.ref code) builtinsNs X.env) fp (X.A.in1.in1.deeper (genEnv scope cl C (.ref code) builtinsNs X.env)) pn) elt (te code))
    (hs : ∀ v, genFold iter X.env v = pure v) (he : starEach [.GeneratorExp elt [⟨tg, iter, ifs, 0⟩] scope gpos] X.env = (false, eval (.GeneratorExp elt [⟨tg, iter, ifs, 0⟩] scope gpos) X.env) :: starEach [] X.env) :
    PE X (.Call (.Name "any" p) [.GeneratorExp elt [⟨tg, iter, ifs, 0⟩] scope gpos] [] pos) (tGxO tb false P wi g tt te (own.map (·.2))) := by
  refine ⟨fun pins s σ H Q I h => ?_⟩
  refine wpAny_Call_Name_kw (ld_blt I hg hm boot_any ?_)
  refine PyProof.Rows.callWith_builtin1 ?_ he (by rfl)
  rw [he]
  show wpAny _ _ (spliced ((false, eval (.GeneratorExp elt [⟨tg, iter, ifs, 0⟩] scope gpos) X.env) :: backTo pos (starEach [] X.env))) _ _ s
  have hd : X.A.depth < recursionLimit := by have := hr.dp; omega
  refine Calls.spliced_cons (gx_madeO (al := false) (Q := Q) hc hN hd TB hcode hmN ok hi hgte hs I h fun s3 H3 fp a gi m s5 I3 f3 Z => ?_)
  refine Calls.spliced_nil ?_
  refine call_anyI Z.1 (any_loopI (GxZ X s3 H3 fp a gi false Q) (fun m s hz => wpAny_mono (gx_step hr.hd hd I3 f3 m s hz) (fun o s' q => ?_) fun _ _ e => e) m s5 Z)
  cases o with
  | none => exact q
  | some v => exact q
theorem pe_gxAllN {c P : Addr} {elt tg iter : Expr} {ifs : List Expr} {scope : Scope} {own : List (Str × Nat)} {p pos gpos : Pos} {wi : TI} {g : Value → TG} {tt : Value → TT} {te : Value → TE} {k : Nat}
    (hc : X.calm = true) (hN : X.N.Nodup) (hr : Room k X.A) (hg : Gl X "all") (hm : X.mg "all" = none) (TB : ∃ c0 P0, GxR.TabB X.base X.mg c0 P0) (hcode : X.env.code = .ref c) (ok : GxOk X.N X.env.scope scope own) (hi : PI X tg iter wi)
    (hgte : ∀ (s : Shared) (H : Hp) (cl : List (Str × Addr)) (C : Addr) (code : Value) (fp : List Addr) (pn : List (Addr × Obj)), PG (gxC X s H (genEnv scope cl C code builtinsNs X.env) fp (X.A.in1.in1.deeper (genEnv scope cl C code builtinsNs X.env)) pn) tg (g code) ∧
      PTs (gxC X s H (genEnv scope cl C code builtinsNs X.env) fp (X.A.in1.in1.deeper (genEnv scope cl C code builtinsNs X.env)) pn) ifs (tt code) ∧ PE (gxC X s H (genEnv scope cl C code builtinsNs X.env) fp (X.A.in1.in1.deeper (genEnv scope cl C code builtinsNs X.env)) pn) elt (te code))
    (hs : ∀ v, genFold iter X.env v = pure v) (he : starEach [.GeneratorExp elt [⟨tg, iter, ifs, 0⟩] scope gpos] X.env = (false, eval (.GeneratorExp elt [⟨tg, iter, ifs, 0⟩] scope gpos) X.env) :: starEach [] X.env) :
    PE X (.Call (.Name "all" p) [.GeneratorExp elt [⟨tg, iter, ifs, 0⟩] scope gpos] [] pos) (tGxN true c P wi g tt te (own.map (·.2))) := by
  refine ⟨fun pins s σ H Q I h => ?_⟩
  refine wpAny_Call_Name_kw (ld_blt I hg hm boot_all ?_)
  refine PyProof.Rows.callWith_builtin1 ?_ he (by rfl)
  rw [he]
  show wpAny _ _ (spliced ((false, eval (.GeneratorExp elt [⟨tg, iter, ifs, 0⟩] scope gpos) X.env) :: backTo pos (starEach [] X.env))) _ _ s
  have hd : X.A.depth < recursionLimit := by have := hr.dp; omega
  refine Calls.spliced_cons (gx_madeN (al := true) (Q := Q) hc hN hd TB hcode ok hi hgte hs I h fun s3 H3 fp a gi m s5 I3 f3 Z => ?_)
  refine Calls.spliced_nil ?_
  refine call_allI Z.1 (all_loopI (GxZ X s3 H3 fp a gi true Q) (fun m s hz => wpAny_mono (gx_step hr.hd hd I3 f3 m s hz) (fun o s' q => ?_) fun _ _ e => e) m s5 Z)
  cases o with
  | none => exact q
  | some v => exact q
theorem pe_gxAnyN {c P : Addr} {elt tg iter : Expr} {ifs : List Expr} {scope : Scope} {own : List (Str × Nat)} {p pos gpos : Pos} {wi : TI} {g : Value → TG} {tt : Value → TT} {te : Value → TE} {k : Nat}
    (hc : X.calm = true) (hN : X.N.Nodup) (hr : Room k X.A) (hg : Gl X "any") (hm : X.mg "any" = none) (TB : ∃ c0 P0, GxR.TabB X.base X.mg c0 P0) (hcode : X.env.code = .ref c) (ok : GxOk X.N X.env.scope scope own) (hi : PI X tg iter wi)
    (hgte : ∀ (s : Shared) (H : Hp) (cl : List (Str × Addr)) (C : Addr) (code : Value) (fp : List Addr) (pn : List (Addr × Obj)), PG (gxC X s H (genEnv scope cl C code builtinsNs X.env) fp (X.A.in1.in1.deeper (genEnv scope cl C code builtinsNs X.env)) pn) tg (g code) ∧
      PTs (gxC X s H (genEnv scope cl C code builtinsNs X.env) fp (X.A.in1.in1.deeper (genEnv scope cl C code builtinsNs X.env)) pn) ifs (tt code) ∧ PE (gxC X s H (genEnv scope cl C code builtinsNs X.env) fp (X.A.in1.in1.deeper (genEnv scope cl C code builtinsNs X.env)) pn) elt (te code))
    (hs : ∀ v, genFold iter X.env v = pure v) (he : starEach [.GeneratorExp elt [⟨tg, iter, ifs, 0⟩] scope gpos] X.env = (false, eval (.GeneratorExp elt [⟨tg, iter, ifs, 0⟩] scope gpos) X.env) :: starEach [] X.env) :
    PE X (.Call (.Name "any" p) [.GeneratorExp elt [⟨tg, iter, ifs, 0⟩] scope gpos] [] pos) (tGxN false c P wi g tt te (own.map (·.2))) := by
  refine ⟨fun pins s σ H Q I h => ?_⟩
  refine wpAny_Call_Name_kw (ld_blt I hg hm boot_any ?_)
  refine PyProof.Rows.callWith_builtin1 ?_ he (by rfl)
  rw [he]
  show wpAny _ _ (spliced ((false, eval (.GeneratorExp elt [⟨tg, iter, ifs, 0⟩] scope gpos) X.env) :: backTo pos (starEach [] X.env))) _ _ s
  have hd : X.A.depth < recursionLimit := by have := hr.dp; omega
  refine Calls.spliced_cons (gx_madeN (al := false) (Q := Q) hc hN hd TB hcode ok hi hgte hs I h fun s3 H3 fp a gi m s5 I3 f3 Z => ?_)
  refine Calls.spliced_nil ?_
  refine call_anyI Z.1 (any_loopI (GxZ X s3 H3 fp a gi false Q) (fun m s hz => wpAny_mono (gx_step hr.hd hd I3 f3 m s hz) (fun o s' q => ?_) fun _ _ e => e) m s5 Z)
  cases o with
  | none => exact q
  | some v => exact q
end
/-- the code at c with its own table at p, known at the def's entry -/
structure NestF (t : Tbs) (B : Hp) (c p : Addr) : Prop where
  code : B c = some (CodeT c p)
  tab : ∃ ps : Array Value, B p = some (.tbl ps) ∧ TriplesOk ps.toList
  apart : (∀ q ∈ t.T, q.1 ≠ p) ∧ p ∉ t.N
theorem NestF.tabH {t : Tbs} {B H : Hp} {c p : Addr} (h : NestF t B c p) (e : Ext t B H) : GxR.TabG H p := by
  obtain ⟨ps, h1, h2⟩ := h.tab
  obtain ⟨ps', h3, h4⟩ := e.tab p ps h1
  exact ⟨ps', h3, h4 h2⟩
theorem nestF_at {t : Tbs} {B H : Hp} {c p : Addr} {ps : Array Value} (hc : H c = some (CodeT c p)) (hp : H p = some (.tbl ps)) (ht : TriplesOk ps.toList) (ap : (∀ q ∈ t.T, q.1 ≠ p) ∧ p ∉ t.N) : NestF t (upd (upd B c (CodeT c p)) p (.tbl ps)) c p := by
  have n : c ≠ p := fun z => by rw [z, hp] at hc; exact codeT_ne (Option.some.inj hc).symm
  exact ⟨by rw [upd_ne n, upd_same], ⟨ps, upd_same, ht⟩, ap⟩
def Stat.gxN (S : Stat) (scope : Scope) (c : Addr) (Bn Fn : Hp) : Stat := { S with sc := scope, fn := fun _ => false, k := S.k - 3, code := .ref c, qual := S.qual ++ "<genexpr>.", B := Bn, F0 := Fn }
section
variable {S : Stat} {X : Cx} {scope : Scope} {c : Addr} {Bn Fn : Hp} {e tg : Expr} {σ : L2.St} {H : Hp}
theorem IsCx.toN (hX : IsCx (S.gx scope (.ref c)) X) : IsCx (S.gxN scope c Bn Fn) X := ⟨hX.prog, hX.w, hX.K, hX.mg, hX.base, hX.N, hX.sc, hX.fn, hX.room, hX.calm, hX.code, hX.xe, hX.qual⟩
theorem wG_re {v : V} {Q : L2.St → Hp → Prop} (h : wG (S.gxN scope c Bn Fn) tg v σ H Q) : wG (S.gx scope (.ref c)) tg v σ H Q := fun X hX => h X hX.toN
theorem wE_re {Q : VK} (h : wE (S.gxN scope c Bn Fn) e σ H Q) : wE (S.gx scope (.ref c)) e σ H Q := fun X hX => h X hX.toN
theorem wT_re {Q : Bool → Hp → Prop} (h : wT (S.gxN scope c Bn Fn) e σ H Q) : wT (S.gx scope (.ref c)) e σ H Q := fun X hX => h X hX.toN
theorem At.gxN {γ : Gm} {F : Hp} {p : Addr} {ps : Array Value} (scope : Scope) (h : At S γ σ H F) (hc : H c = some (CodeT c p)) (hp : H p = some (.tbl ps)) : At (S.gxN scope c (upd (upd S.B c (CodeT c p)) p (.tbl ps)) (fun b => if b = c ∨ b = p then F b else S.F0 b)) γ σ H F := by
  have n : c ≠ p := fun z => by rw [z, hp] at hc; exact codeT_ne (Option.some.inj hc).symm
  have at_ : ∀ b, b ≠ c → b ≠ p → upd (upd S.B c (CodeT c p)) p (.tbl ps) b = S.B b := fun b h1 h2 => by rw [upd_ne h2, upd_ne h1]
  refine ⟨⟨⟨fun a o e nt => ?_, fun a qs e => ?_, fun _ => h.tabs.2⟩, h.hf, fun a o e => ?_, fun a o e nF => ?_, h.tabs⟩, h.len, h.sh, fun i d e => ?_, h.apart, h.lk⟩
  · have e : upd (upd S.B c (CodeT c p)) p (.tbl ps) a = some o := e
    by_cases h1 : a = p
    · rw [h1, upd_same] at e
      exact absurd (Option.some.inj e).symm (nt ps)
    · by_cases h2 : a = c
      · rw [h2, upd_ne n, upd_same] at e
        rw [h2, hc, e]
      · rw [at_ a h2 h1] at e
        exact h.ext.keep a o e nt
  · have e : upd (upd S.B c (CodeT c p)) p (.tbl ps) a = some (.tbl qs) := e
    by_cases h1 : a = p
    · rw [h1, upd_same] at e
      cases e
      exact ⟨ps, by rw [h1]; exact hp, id⟩
    · by_cases h2 : a = c
      · rw [h2, upd_ne n, upd_same] at e
        exact absurd (Option.some.inj e) codeT_ne
      · rw [at_ a h2 h1] at e
        exact h.ext.tab a qs e
  · have e : (if a = c ∨ a = p then F a else S.F0 a) = some o := e
    split at e
    · exact e
    · exact h.f0 a o e
  · have nF : (if a = c ∨ a = p then F a else S.F0 a) = none := nF
    split at nF
    · rw [nF] at e; cases e
    · rename_i hno
      show upd (upd S.B c (CodeT c p)) p (.tbl ps) a = none
      rw [at_ a (fun z => hno (.inl z)) (fun z => hno (.inr z))]
      exact h.new a o e nF
  · obtain ⟨a, h1, h2⟩ := h.ow i d e
    refine ⟨a, h1, ?_⟩
    have noC : H a ≠ some (CodeT c p) ∧ ∀ qs, H a ≠ some (.tbl qs) := by
      rcases h2.2.2.cases with ⟨ds, vs, _, g3, _⟩ | ⟨kvs, ks, _, g3, _⟩
      · exact ⟨fun z => (by rw [g3] at z; have := Option.some.inj z; unfold CodeT at this; cases this), fun qs z => (by rw [g3] at z; cases z)⟩
      · exact ⟨fun z => (by rw [g3] at z; have := Option.some.inj z; unfold CodeT at this; cases this), fun qs z => (by rw [g3] at z; cases z)⟩
    obtain ⟨g1, g2, g3⟩ := h2
    refine ⟨?_, g2, g3⟩
    show upd (upd S.B c (CodeT c p)) p (.tbl ps) a = none
    rw [at_ a (fun z => noC.1 (by rw [z]; exact hc)) (fun z => noC.2 _ (by rw [z]; exact hp))]
    exact g1
end
section
variable {S : Stat} {γ : Gm} {σ : L2.St} {H F : Hp} {tg iter elt : Expr} {ifs : List Expr} {scope : Scope} {own : List (Str × Nat)} {p pos gpos : Pos} {τ : Type} {encA : τ → PyData} {xs : List τ} {f : τ → Option (Option Bool)} {k al : Bool} {c P : Addr}
theorem gx_readN (hi : IX S γ tg iter (xs.map encA)) (hn : NestF S.tabs S.B c P) (hb : ∀ code, ∀ x ∈ xs, CBO (S.gx scope code) (wipeG γ (own.map (·.2))) tg ifs elt (own.map (·.2)) (encA x) eB (f x)) (hr : quantM al f xs = some k) (at_ : At S γ σ H F) {Q : VK}
    (q : ∀ H' F', At S γ σ H' F' → Ex2 S.tabs H F H' F' → Q (.bl k) H') :
    tGxN al c P (wI S tg iter) (fun code => wG (S.gx scope code) tg) (fun code => tTs (S.gx scope code) ifs) (fun code => wE (S.gx scope code) elt) (own.map (·.2)) σ H Q := by
  refine hi σ H F at_ _ fun J H1 F1 a1 x1 hz w => ⟨a1.ext.keep c _ hn.code (fun _ z => codeT_ne z), hn.tabH a1.ext, fun H2 t code => ?_⟩
  have e12 : Ext S.tabs H1 H2 := ext_tabbed (hn.tabH a1.ext) t hn.apart
  have x12 : Ex2 S.tabs H1 F1 H2 F1 := ⟨e12, Le.refl F1, fun a o h n => by rw [n] at h; cases h⟩
  have hf2 : HF H2 F1 := ⟨a1.hf.ext e12, a1.hf.ntb⟩
  refine ⟨fun i m H3 => ∃ F3, At S γ σ H3 F3 ∧ Ex2 S.tabs H1 F1 H3 F3 ∧ quantM al f (xs.drop i) = some k ∧ m = xs.length - i ∧ i ≤ xs.length, ⟨xs.length, F1, a1.ex x12 hf2, x12, hr, rfl, Nat.zero_le _⟩, ?_⟩
  rintro i m H3 ⟨F3, a3, x3, hq, hm, hile⟩
  by_cases hi : i < xs.length
  · have hil : i < (xs.map encA).length := by rw [List.length_map]; exact hi
    refine .inr ⟨w.goes i H3 hil x3.h, fun H' => ∃ F', At S γ σ H' F' ∧ Ex2 S.tabs H1 F1 H' F' ∧ quantM al f (xs.drop (i + 1)) = some k, fun H' ⟨F', b1, b2, b3⟩ => ⟨xs.length - (i + 1), by omega, F', b1, b2, b3, rfl, hi⟩, fun x H4 hy => ?_⟩
    obtain ⟨d, hd, hyd⟩ := w.yields i H3 x H4 hil x3.h hy
    have hx : xs[i]? = some xs[i] := List.getElem?_eq_getElem hi
    obtain rfl : encA xs[i] = d := by rw [List.getElem?_map, hx] at hd; exact Option.some.inj hd
    rw [List.drop_eq_getElem_cons hi] at hq
    unfold quantM at hq
    obtain ⟨r, hr1, hr2⟩ := Option.bind_eq_some_iff.mp hq
    obtain ⟨γ2, is, kk, g, hsub, ts, kf, kt⟩ := hb code xs[i] (List.getElem_mem hi) r hr1
    obtain ⟨F4, a4, x4, dx⟩ : ∃ F4, At S γ σ H4 F4 ∧ Ex2 S.tabs H3 F3 H4 F4 ∧ Dp S.K F4 x (encA xs[i]) := by
      rcases hyd with ⟨e1, dx⟩ | ⟨T, ys, ds, hT, e1, e2, e3, dx⟩
      · subst e1
        exact ⟨F3, a3, Ex2.refl _ _, dx.zmono x3.f⟩
      · subst e1; subst e2
        have x5 : Ex2 S.tabs H3 F3 (upd H3 T (.tup ys)) (upd F3 T (.tup ys)) := ex_new a3.hf hT
        refine ⟨_, a3.ex x5 (a3.hf.new hT fun _ z => by cases z), x5, ?_⟩
        rw [e3]
        exact .tup (SqT.of upd_same) (dx.zmono (x3.trans x5).f)
    refine g _ H4 F4 x ((a4.wipe _).gx scope code) dx _ fun σ2 b2 l2 n2 => ⟨wipe_ext l2 n2 hsub, ?_⟩
    have fin : ∀ {H5 F5 : Hp}, At (S.gx scope code) γ2 σ2 H5 F5 → Ex2 S.tabs H4 F4 H5 F5 → if kk = true then wE (S.gx scope code) elt σ2 H5 fun y H6 => ∃ b : Bool, y = .bl b ∧ if b = al then (∃ F', At S γ σ H6 F' ∧ Ex2 S.tabs H1 F1 H6 F' ∧ quantM al f (xs.drop (i + 1)) = some k) else Q (.bl (!al)) H6
        else (∃ F', At S γ σ H5 F' ∧ Ex2 S.tabs H1 F1 H5 F' ∧ quantM al f (xs.drop (i + 1)) = some k) := by
      intro H5 F5 b5 x5
      cases kk with
      | true =>
        rw [if_pos rfl]
        obtain ⟨d', eo, ed⟩ := kt rfl
        obtain ⟨b, er, rfl⟩ : ∃ b, r = some b ∧ d' = .bool b := by
          cases r with
          | none => cases eo
          | some b => exact ⟨b, rfl, (Option.some.inj eo).symm⟩
        refine ed σ2 H5 F5 b5 _ fun y H6 F6 b6 x6 dy => ?_
        cases dy
        refine ⟨b, rfl, ?_⟩
        have x56 := x5.trans x6
        by_cases hba : b = al
        · rw [if_pos hba]
          rw [er, if_neg (by rw [hba]; cases al <;> simp)] at hr2
          exact ⟨F6, a4.ex x56 b6.hf, (x3.trans x4).trans x56, hr2⟩
        · rw [if_neg hba]
          have hbn : b = !al := by cases b <;> cases al <;> simp_all
          rw [er, if_pos (by rw [hbn])] at hr2
          cases hr2
          exact q H6 F6 (a4.ex x56 b6.hf) (x1.trans ((x3.trans x4).trans x56))
      | false =>
        rw [if_neg Bool.false_ne_true]
        obtain rfl : r = none := by
          have := kf rfl
          cases r with
          | none => rfl
          | some b => cases this
        rw [if_neg (by simp)] at hr2
        exact ⟨F5, a4.ex x5 b5.hf, (x3.trans x4).trans x5, hr2⟩
    rcases ts with ⟨e1, e2⟩ | ⟨cc, e1, tc⟩
    · subst e1
      have := fin b2 (Ex2.refl _ _)
      rw [e2] at this
      exact this
    · subst e1
      exact tc σ2 H4 F4 b2 _ fun H5 F5 b5 x5 => fin b5 x5
  · rw [List.drop_eq_nil_of_le (by omega)] at hq
    cases hq
    have e9 : i = xs.length := by omega
    refine .inl ⟨?_, q H3 F3 a3 (x1.trans x3)⟩
    have := w.stops H3 x3.h
    rw [List.length_map, ← e9] at this
    exact this
--RO--
theorem gx_readO (hi : IX S γ tg iter (xs.map encA))  (hb : ∀ (c1 p1 : Addr) (Bn Fn : Hp), NestF S.tabs Bn c1 p1 → ∀ x ∈ xs, CBO (S.gxN scope c1 Bn Fn) (wipeG γ (own.map (·.2))) tg ifs elt (own.map (·.2)) (encA x) eB (f x)) (hr : quantM al f xs = some k) (at_ : At S γ σ H F) {Q : VK}
    (q : ∀ H' F', At S γ σ H' F' → Ex2 S.tabs H F H' F' → Q (.bl k) H') :
    tGxO S.tabs al P (wI S tg iter) (fun code => wG (S.gx scope (.ref code)) tg) (fun code => tTs (S.gx scope (.ref code)) ifs) (fun code => wE (S.gx scope (.ref code)) elt) (own.map (·.2)) σ H Q := by
  refine hi σ H F at_ _ fun J H1 F1 a1 x1 hz w => ⟨a1.tabs.2, fun H2 c1 p1 hnst => ?_⟩
  have e12 : Ext S.tabs H1 H2 := hnst.ext
  have x12 : Ex2 S.tabs H1 F1 H2 F1 := ⟨e12, Le.refl F1, fun a o h n => by rw [n] at h; cases h⟩
  have hf2 : HF H2 F1 := ⟨a1.hf.ext e12, a1.hf.ntb⟩
  refine ⟨fun i m H3 => ∃ F3, At S γ σ H3 F3 ∧ Ex2 S.tabs H2 F1 H3 F3 ∧ quantM al f (xs.drop i) = some k ∧ m = xs.length - i ∧ i ≤ xs.length, ⟨xs.length, F1, a1.ex x12 hf2, Ex2.refl _ _, hr, rfl, Nat.zero_le _⟩, ?_⟩
  rintro i m H3 ⟨F3, a3, x3, hq, hm, hile⟩
  by_cases hi : i < xs.length
  · have hil : i < (xs.map encA).length := by rw [List.length_map]; exact hi
    refine .inr ⟨w.goes i H3 hil (e12.trans x3.h), fun H' => ∃ F', At S γ σ H' F' ∧ Ex2 S.tabs H2 F1 H' F' ∧ quantM al f (xs.drop (i + 1)) = some k, fun H' ⟨F', b1, b2, b3⟩ => ⟨xs.length - (i + 1), by omega, F', b1, b2, b3, rfl, hi⟩, fun x H4 hy => ?_⟩
    obtain ⟨d, hd, hyd⟩ := w.yields i H3 x H4 hil (e12.trans x3.h) hy
    have hx : xs[i]? = some xs[i] := List.getElem?_eq_getElem hi
    obtain rfl : encA xs[i] = d := by rw [List.getElem?_map, hx] at hd; exact Option.some.inj hd
    rw [List.drop_eq_getElem_cons hi] at hq
    unfold quantM at hq
    obtain ⟨r, hr1, hr2⟩ := Option.bind_eq_some_iff.mp hq
    obtain ⟨F4, a4, x4, dx⟩ : ∃ F4, At S γ σ H4 F4 ∧ Ex2 S.tabs H3 F3 H4 F4 ∧ Dp S.K F4 x (encA xs[i]) := by
      rcases hyd with ⟨e1, dx⟩ | ⟨T, ys, ds, hT, e1, e2, e3, dx⟩
      · subst e1
        exact ⟨F3, a3, Ex2.refl _ _, dx.zmono x3.f⟩
      · subst e1; subst e2
        have x5 : Ex2 S.tabs H3 F3 (upd H3 T (.tup ys)) (upd F3 T (.tup ys)) := ex_new a3.hf hT
        refine ⟨_, a3.ex x5 (a3.hf.new hT fun _ z => by cases z), x5, ?_⟩
        rw [e3]
        exact .tup (SqT.of upd_same) (dx.zmono (x3.trans x5).f)
    have hc4 : H4 c1 = some (CodeT c1 p1) := (x3.trans x4).h.keep c1 _ hnst.code fun _ z => codeT_ne z
    obtain ⟨ps2, hp2, ht2⟩ := hnst.tab
    obtain ⟨ps4, hp4, ht4⟩ := (x3.trans x4).h.tab p1 ps2 hp2
    have hNF : NestF S.tabs (upd (upd S.B c1 (CodeT c1 p1)) p1 (.tbl ps4)) c1 p1 := nestF_at hc4 hp4 (ht4 ht2) hnst.apart
    obtain ⟨γ2, is, kk, g, hsub, ts, kf, kt⟩ := hb c1 p1 _ (fun b => if b = c1 ∨ b = p1 then F4 b else S.F0 b) hNF xs[i] (List.getElem_mem hi) r hr1
    refine wG_re (g _ H4 F4 x ((a4.wipe _).gxN scope hc4 hp4) dx _ fun σ2 b2 l2 n2 => ⟨wipe_ext l2 n2 hsub, ?_⟩)
    have fin : ∀ {H5 F5 : Hp}, At (S.gxN scope c1 (upd (upd S.B c1 (CodeT c1 p1)) p1 (.tbl ps4)) (fun b => if b = c1 ∨ b = p1 then F4 b else S.F0 b)) γ2 σ2 H5 F5 → Ex2 S.tabs H4 F4 H5 F5 → if kk = true then wE (S.gx scope (.ref c1)) elt σ2 H5 fun y H6 => ∃ b : Bool, y = .bl b ∧ if b = al then (∃ F', At S γ σ H6 F' ∧ Ex2 S.tabs H2 F1 H6 F' ∧ quantM al f (xs.drop (i + 1)) = some k) else Q (.bl (!al)) H6
        else (∃ F', At S γ σ H5 F' ∧ Ex2 S.tabs H2 F1 H5 F' ∧ quantM al f (xs.drop (i + 1)) = some k) := by
      intro H5 F5 b5 x5
      cases kk with
      | true =>
        rw [if_pos rfl]
        obtain ⟨d', eo, ed⟩ := kt rfl
        obtain ⟨b, er, rfl⟩ : ∃ b, r = some b ∧ d' = .bool b := by
          cases r with
          | none => cases eo
          | some b => exact ⟨b, rfl, (Option.some.inj eo).symm⟩
        refine wE_re (ed σ2 H5 F5 b5 _ fun y H6 F6 b6 x6 dy => ?_)
        cases dy
        refine ⟨b, rfl, ?_⟩
        have x56 := x5.trans x6
        by_cases hba : b = al
        · rw [if_pos hba]
          rw [er, if_neg (by rw [hba]; cases al <;> simp)] at hr2
          exact ⟨F6, a4.ex x56 b6.hf, (x3.trans x4).trans x56, hr2⟩
        · rw [if_neg hba]
          have hbn : b = !al := by cases b <;> cases al <;> simp_all
          rw [er, if_pos (by rw [hbn])] at hr2
          cases hr2
          exact q H6 F6 (a4.ex x56 b6.hf) (x1.trans (x12.trans ((x3.trans x4).trans x56)))
      | false =>
        rw [if_neg Bool.false_ne_true]
        obtain rfl : r = none := by
          have := kf rfl
          cases r with
          | none => rfl
          | some b => cases this
        rw [if_neg (by simp)] at hr2
        exact ⟨F5, a4.ex x5 b5.hf, (x3.trans x4).trans x5, hr2⟩
    rcases ts with ⟨e1, e2⟩ | ⟨cc, e1, tc⟩
    · subst e1
      have := fin b2 (Ex2.refl _ _)
      rw [e2] at this
      exact this
    · subst e1
      exact wT_re (tc σ2 H4 F4 b2 _ fun H5 F5 b5 x5 => fin b5 x5)
  · rw [List.drop_eq_nil_of_le (by omega)] at hq
    cases hq
    have e9 : i = xs.length := by omega
    refine .inl ⟨?_, q H3 F3 a3 (x1.trans (x12.trans x3))⟩
    have := w.stops H3 (e12.trans x3.h)
    rw [List.length_map, ← e9] at this
    exact this
--EO--
theorem e_gxAllN (hk : 3 ≤ S.k) (hc : S.code = .ref c) {c0 P0 : Addr} (hn : NestF S.tabs S.B c P) (TB : GxR.TabB S.base S.mg c0 P0) (hg : IsGl S "all") (hm : S.mg "all" = none) (hi : IX S γ tg iter (xs.map encA))
    (hb : ∀ code, ∀ x ∈ xs, CBO (S.gx scope code) (wipeG γ (own.map (·.2))) tg ifs elt (own.map (·.2)) (encA x) eB (f x)) (hr : quantM true f xs = some k) (hN : S.N.Nodup) (ok : gxB S.N S.sc scope own = true) (h1 : ifs.length ≤ 1) (hs : ∀ (X : Cx) v, genFold iter X.env v = pure v)
    (he : ∀ X : Cx, starEach [.GeneratorExp elt [⟨tg, iter, ifs, 0⟩] scope gpos] X.env = (false, eval (.GeneratorExp elt [⟨tg, iter, ifs, 0⟩] scope gpos) X.env) :: starEach [] X.env) :
    EJ S γ (.Call (.Name "all" p) [.GeneratorExp elt [⟨tg, iter, ifs, 0⟩] scope gpos] [] pos) (.bool k) := fun σ H F at_ Q q =>
  wE_of (fun X hX => pe_gxAllN hX.calm (by rw [hX.N]; exact hN) hX.room (hX.gl hg) (hX.mgn hm) (by rw [hX.base, hX.mg]; exact ⟨c0, P0, TB⟩) (by rw [hX.code]; exact hc) (by rw [hX.N, hX.sc]; exact gxOk_by ok) (pi_w hX)
      (fun s H cl C code fp pn => ⟨pg_w (hX.gx hk s H scope cl C code fp pn), pts_gx (hX.gx hk s H scope cl C code fp pn) h1, pe_w (hX.gx hk s H scope cl C code fp pn)⟩) (hs X) (he X))
    (gx_readN hi hn hb hr at_ fun H' F' a1 x1 => q (.bl k) H' F' a1 x1 (.bl k))
theorem e_gxAnyN (hk : 3 ≤ S.k) (hc : S.code = .ref c) {c0 P0 : Addr} (hn : NestF S.tabs S.B c P) (TB : GxR.TabB S.base S.mg c0 P0) (hg : IsGl S "any") (hm : S.mg "any" = none) (hi : IX S γ tg iter (xs.map encA))
    (hb : ∀ code, ∀ x ∈ xs, CBO (S.gx scope code) (wipeG γ (own.map (·.2))) tg ifs elt (own.map (·.2)) (encA x) eB (f x)) (hr : quantM false f xs = some k) (hN : S.N.Nodup) (ok : gxB S.N S.sc scope own = true) (h1 : ifs.length ≤ 1) (hs : ∀ (X : Cx) v, genFold iter X.env v = pure v)
    (he : ∀ X : Cx, starEach [.GeneratorExp elt [⟨tg, iter, ifs, 0⟩] scope gpos] X.env = (false, eval (.GeneratorExp elt [⟨tg, iter, ifs, 0⟩] scope gpos) X.env) :: starEach [] X.env) :
    EJ S γ (.Call (.Name "any" p) [.GeneratorExp elt [⟨tg, iter, ifs, 0⟩] scope gpos] [] pos) (.bool k) := fun σ H F at_ Q q =>
  wE_of (fun X hX => pe_gxAnyN hX.calm (by rw [hX.N]; exact hN) hX.room (hX.gl hg) (hX.mgn hm) (by rw [hX.base, hX.mg]; exact ⟨c0, P0, TB⟩) (by rw [hX.code]; exact hc) (by rw [hX.N, hX.sc]; exact gxOk_by ok) (pi_w hX)
      (fun s H cl C code fp pn => ⟨pg_w (hX.gx hk s H scope cl C code fp pn), pts_gx (hX.gx hk s H scope cl C code fp pn) h1, pe_w (hX.gx hk s H scope cl C code fp pn)⟩) (hs X) (he X))
    (gx_readN hi hn hb hr at_ fun H' F' a1 x1 => q (.bl k) H' F' a1 x1 (.bl k))
theorem e_gxAllO (hk : 3 ≤ S.k) (hc : S.code = .ref c) (hP : P ∈ S.tabs.N) (TB : GxR.TabB S.base S.mg c P) (hg : IsGl S "all") (hm : S.mg "all" = none) (hi : IX S γ tg iter (xs.map encA))
    (hb : ∀ (c1 p1 : Addr) (Bn Fn : Hp), NestF S.tabs Bn c1 p1 → ∀ x ∈ xs, CBO (S.gxN scope c1 Bn Fn) (wipeG γ (own.map (·.2))) tg ifs elt (own.map (·.2)) (encA x) eB (f x)) (hr : quantM true f xs = some k) (hN : S.N.Nodup) (ok : gxB S.N S.sc scope own = true) (h1 : ifs.length ≤ 1) (hs : ∀ (X : Cx) v, genFold iter X.env v = pure v)
    (he : ∀ X : Cx, starEach [.GeneratorExp elt [⟨tg, iter, ifs, 0⟩] scope gpos] X.env = (false, eval (.GeneratorExp elt [⟨tg, iter, ifs, 0⟩] scope gpos) X.env) :: starEach [] X.env) :
    EJ S γ (.Call (.Name "all" p) [.GeneratorExp elt [⟨tg, iter, ifs, 0⟩] scope gpos] [] pos) (.bool k) := fun σ H F at_ Q q =>
  wE_of (fun X hX => pe_gxAllO hX.calm (by rw [hX.N]; exact hN) hX.room (hX.gl hg) (hX.mgn hm) (by rw [hX.base, hX.mg]; exact TB) (by rw [hX.code]; exact hc) hP (by rw [hX.N, hX.sc]; exact gxOk_by ok) (pi_w hX)
      (fun s H cl C code fp pn => ⟨pg_w (hX.gx hk s H scope cl C (.ref code) fp pn), pts_gx (hX.gx hk s H scope cl C (.ref code) fp pn) h1, pe_w (hX.gx hk s H scope cl C (.ref code) fp pn)⟩) (hs X) (he X))
    (gx_readO hi hb hr at_ fun H' F' a1 x1 => q (.bl k) H' F' a1 x1 (.bl k))
theorem e_gxAnyO (hk : 3 ≤ S.k) (hc : S.code = .ref c) (hP : P ∈ S.tabs.N) (TB : GxR.TabB S.base S.mg c P) (hg : IsGl S "any") (hm : S.mg "any" = none) (hi : IX S γ tg iter (xs.map encA))
    (hb : ∀ (c1 p1 : Addr) (Bn Fn : Hp), NestF S.tabs Bn c1 p1 → ∀ x ∈ xs, CBO (S.gxN scope c1 Bn Fn) (wipeG γ (own.map (·.2))) tg ifs elt (own.map (·.2)) (encA x) eB (f x)) (hr : quantM false f xs = some k) (hN : S.N.Nodup) (ok : gxB S.N S.sc scope own = true) (h1 : ifs.length ≤ 1) (hs : ∀ (X : Cx) v, genFold iter X.env v = pure v)
    (he : ∀ X : Cx, starEach [.GeneratorExp elt [⟨tg, iter, ifs, 0⟩] scope gpos] X.env = (false, eval (.GeneratorExp elt [⟨tg, iter, ifs, 0⟩] scope gpos) X.env) :: starEach [] X.env) :
    EJ S γ (.Call (.Name "any" p) [.GeneratorExp elt [⟨tg, iter, ifs, 0⟩] scope gpos] [] pos) (.bool k) := fun σ H F at_ Q q =>
  wE_of (fun X hX => pe_gxAnyO hX.calm (by rw [hX.N]; exact hN) hX.room (hX.gl hg) (hX.mgn hm) (by rw [hX.base, hX.mg]; exact TB) (by rw [hX.code]; exact hc) hP (by rw [hX.N, hX.sc]; exact gxOk_by ok) (pi_w hX)
      (fun s H cl C code fp pn => ⟨pg_w (hX.gx hk s H scope cl C (.ref code) fp pn), pts_gx (hX.gx hk s H scope cl C (.ref code) fp pn) h1, pe_w (hX.gx hk s H scope cl C (.ref code) fp pn)⟩) (hs X) (he X))
    (gx_readO hi hb hr at_ fun H' F' a1 x1 => q (.bl k) H' F' a1 x1 (.bl k))
end
end SM

set_option autoImplicit false
set_option Elab.async false
set_option linter.all false
set_option maxRecDepth 100000
set_option maxHeartbeats 4000000
namespace SM
open PySem PySem.Spec PyProof.Rows L2
/-- what is known of a def with generator expressions within generator expressions -/
def GDefN (K : PySem.W.Frag) (mg : Str → Option Value) (base : Heap) (tabs : Tbs) (x : Str) (st : Stmt) (ps : List Str) : Prop := ∃ c P f fd, FunC K x x st f fd c ∧ Binds K fd ps [] ∧ mg x = some (.ref f) ∧ P ∈ tabs.N ∧ GxR.TabB base mg c P
theorem known_ofN {P : Program} {w : World} {K : PySem.W.Frag} {mg : Str → Option Value} {base : Heap} {tabs : Tbs} {k : Nat} {x : Str} {st : Stmt} {N ps : List Str} {R : List PyData → PyData → Prop} (D : GDefN K mg base tabs x st ps) (Sc : FnScope N ps (defScope st))
    (hb : ∀ (c T : Addr), T ∈ tabs.N → GxR.TabB base mg c T → ∀ (B F0 : Hp) (ds : List PyData) (r : PyData), ds.length = ps.length → R ds r → SJ (Stat.of P w K mg base N (defScope st) k tabs (.ref c) B F0 x) (gm0 N.length ds) (defBody st) ⟨fun _ => r = .none, fun d => d = r⟩) : Known P w K mg base tabs (k + 1) x ps.length R := by
  obtain ⟨c, T, f, fd, Fn, b, m, hT, TB⟩ := D
  refine ⟨f, fd, ps, rfl, ?_, m, Fn.2, b⟩
  obtain ⟨⟨oc, od, kV, doc, pm, an, ct, osl, rfl, lk, hcd⟩, kp⟩ := Fn
  refine fn_of lk hcd Sc (fun vs H Q E h => h.1) fun A outer s H vs Q E hr h => ?_
  obtain ⟨t, h1, h2⟩ := body_run Sc (.ref c) (A := A) (outer := outer) (s := s) (f := f) (qual := x) (hb c T hT TB) hr h
  exact ⟨t, h1.nox, h2⟩
end SM

set_option autoImplicit false
set_option Elab.async false
set_option linter.all false
set_option maxRecDepth 100000
set_option maxHeartbeats 4000000
namespace SM
open PySem PySem.Spec PyProof.Rows L2
/-! ### len(set(xs)), xs a list of tuples of ints -/
/-- data that is a tuple of ints, told by its ints -/
structure TupE {α : Type} (enc : α → PyData) (f : α → List Int) : Prop where
  eq : ∀ x, enc x = .tuple ((f x).map PyData.int)
  inj : ∀ x y, f x = f y → x = y
theorem tupE_T : TupE (eT eI) id := ⟨fun _ => rfl, fun _ _ h => h⟩
theorem tupE_P2 : TupE (eP2 eI eI) fun p => [p.1, p.2] := ⟨fun _ => rfl, fun x y h => by
  obtain ⟨a, b⟩ := x
  obtain ⟨c, d⟩ := y
  simp at h
  simp [h]⟩
theorem tupE_P3 : TupE (eP3 eI eI eI) fun p => [p.1, p.2.1, p.2.2] := ⟨fun _ => rfl, fun x y h => by
  obtain ⟨a, b, c⟩ := x
  obtain ⟨d, e, g⟩ := y
  simp at h
  simp [h]⟩
theorem keys_of {α : Type} {enc : α → PyData} {f : α → List Int} (hT : TupE enc f) {K : PySem.W.Frag} {F : Hp} : ∀ {xs : List α} {vs : List V}, DpAll K F vs (xs.map enc) → ∃ ks : List (Addr × List Int), vs = ks.map (fun p => V.ref p.1) ∧ ks.map (·.2) = xs.map f ∧ ∀ p ∈ ks, SqT K F p.1 (p.2.map V.int)
  | [], _, h => by
    cases h
    exact ⟨[], rfl, rfl, by simp⟩
  | x :: xs, _, h => by
    cases h with
    | cons h1 h2 =>
      obtain ⟨ks, e1, e2, e3⟩ := keys_of hT h2
      rw [hT.eq] at h1
      cases h1 with
      | @tup a ys _ g1 g2 =>
        have := DpAll.ints g2
        subst this
        refine ⟨(a, f x) :: ks, by rw [e1]; rfl, by rw [List.map_cons, List.map_cons, e2], fun p hp => ?_⟩
        rcases List.mem_cons.mp hp with rfl | hp
        · exact g1
        · exact e3 p hp
/-- fewer than 64 -/
def lenSetTO {α : Type} [DecidableEq α] (xs : List α) : Option Int := if xs.length < 64 then some ((dd xs).length : Int) else none
section
variable {X : Cx}
theorem cr_lenSetT : CallR X (.builtin "len") (fun vs H Q => ∃ (a : Addr) (L : List (Addr × List Int)), vs = [V.ref a] ∧ H a = some (SetTO X.prog X.w a L) ∧ (∀ p ∈ L, SqT X.K H p.1 (p.2.map V.int)) ∧ ((L.map (·.2)).Nodup → Q (.int L.length) H)) := by
  intro pins s σ H vs us Q I r h
  obtain ⟨a, L, rfl, ha, hk, q⟩ := h
  obtain rfl := Vals.ref1 r
  have R0 : SetT0 X.prog X.w s.heap a L := (I.hok a _ ha).1
  obtain ⟨es, ep, t, R⟩ := R0.full fun p hp => I.isT (hk p hp)
  obtain ⟨o, ho, hex, hd⟩ := R.ob
  have hsz := R.size
  have hfew := R.few
  refine call_len_set ho hex hd R.fits (by omega) ⟨.int L.length, H, I.tok _, ⟨_, by rw [hsz]⟩, q R.nd⟩
end
section
variable {S : Stat} {γ : Gm} {a : Expr} {pos p p2 q2 : Pos} {α : Type} [DecidableEq α] {enc : α → PyData} {f : α → List Int} {xs : List α}
theorem set_ewT (hT : TupE enc f) (hg : IsGl S "set") (hm : S.mg "set" = none) (ha : QJ S γ a .l (xs.map enc)) (hs : PlainE a) (hl : xs.length < 64) :
    EW S γ (.Call (.Name "set" p2) [a] [] q2) (fun v H0 H' F' => ∃ b L, v = .ref b ∧ H0 b = none ∧ H' b = some (SetTO S.P S.w b L) ∧ (∀ p ∈ L, SqT S.K F' p.1 (p.2.map V.int)) ∧ (∀ p ∈ L, p.2 ∈ xs.map f) ∧ ∀ x ∈ xs, f x ∈ L.map (·.2)) :=
  w_t1 (r := rSetOfT S.K S.P S.w) (fun X hX => by rw [← hX.K, ← hX.w, ← hX.prog]; exact cr_setOfT hX.calm (by have := hX.room.un; omega)) hg hm boot_set' hs ha (fun v H0 F0 H F Q at_ x ⟨q, vs, e1, h1, h2⟩ k2 => by
    subst e1
    obtain ⟨ks, e1, e2, e3⟩ := keys_of hT h2
    subst e1
    have hlen : ks.length = xs.length := by
      have := congrArg List.length e2
      simpa using this
    refine ⟨q, ks, rfl, h1, fun p hp => at_.hf.le.sqT (e3 p hp), by omega, fun b L hn hLk hkL => ?_⟩
    refine k2 _ _ F (at_.hf.newH hn) (ex_newH hn) ⟨b, L, rfl, x.h.back hn, upd_same, fun p hp => e3 p (hLk p hp), fun p hp => ?_, fun y hy => ?_⟩
    · rw [← e2]
      exact List.mem_map.mpr ⟨p, hLk p hp, rfl⟩
    · have : f y ∈ ks.map (·.2) := by rw [e2]; exact List.mem_map.mpr ⟨y, hy, rfl⟩
      obtain ⟨p, hp, e⟩ := List.mem_map.mp this
      rw [← e]
      exact hkL p hp) (by decide) (by decide)
theorem dd_keys (hT : TupE enc f) {ks : List (List Int)} (nd : ks.Nodup) (h1 : ∀ k ∈ ks, k ∈ xs.map f) (h2 : ∀ x ∈ xs, f x ∈ ks) : ks.Perm ((dd xs).map f) := by
  refine (List.perm_ext_iff_of_nodup nd ?_).mpr fun k => ⟨fun hk => ?_, fun hk => ?_⟩
  · exact List.pairwise_map.mpr ((dd_nodup xs).imp fun h e => h (hT.inj _ _ e))
  · obtain ⟨x, hx, e⟩ := List.mem_map.mp (h1 k hk)
    exact List.mem_map.mpr ⟨x, mem_dd.mpr hx, e⟩
  · obtain ⟨x, hx, e⟩ := List.mem_map.mp hk
    rw [← e]
    exact h2 x (mem_dd.mp hx)
theorem e_lenSetT {n : Int} (hT : TupE enc f) (hg : IsGl S "len") (hm : S.mg "len" = none) (hg2 : IsGl S "set") (hm2 : S.mg "set" = none) (ha : QJ S γ a .l (xs.map enc)) (hs : PlainE a) (hr : lenSetTO xs = some n) (hs2 : PlainE (.Call (.Name "set" p2) [a] [] q2)) : EJ S γ (.Call (.Name "len" p) [.Call (.Name "set" p2) [a] [] q2] [] pos) (.int n) := by
  unfold lenSetTO at hr
  split at hr
  case isFalse => cases hr
  rename_i hl
  cases hr
  exact w_b1 (r := fun vs H Q => ∃ (a : Addr) (L : List (Addr × List Int)), vs = [V.ref a] ∧ H a = some (SetTO S.P S.w a L) ∧ (∀ p ∈ L, SqT S.K H p.1 (p.2.map V.int)) ∧ ((L.map (·.2)).Nodup → Q (.int L.length) H)) (fun X hX => by rw [← hX.w, ← hX.prog, ← hX.K]; exact cr_lenSetT) hg hm PySem.boot_len hs2 (set_ewT hT hg2 hm2 ha hs hl) (fun v H0 F0 H F Q at_ x ⟨b, L, e1, _, h2, h3, h4, h5⟩ k2 => by
    subst e1
    refine ⟨b, L, rfl, h2, fun p hp => at_.hf.le.sqT (h3 p hp), fun nd => ?_⟩
    have pm := dd_keys (xs := xs) hT nd (fun k hk => by
      obtain ⟨p, hp, e⟩ := List.mem_map.mp hk
      rw [← e]; exact h4 p hp) h5
    have hlen : L.length = (dd xs).length := by
      have := pm.length_eq
      simpa using this
    rw [hlen]
    exact k2 _ H F at_.hf (Ex2.refl H F) (.int _)) (by decide) (by decide)
end
end SM

set_option autoImplicit false
set_option Elab.async false
set_option linter.all false
set_option maxRecDepth 100000
set_option maxHeartbeats 4000000
namespace SM
open PySem PySem.Spec PyProof.Rows L2
open PySem.W (EachIs AllAlike)
open PySem.W (sortingHeap sortingHeap_old list_sort_vals dataKind sortVals_length each_map sortVals_data bound_map dataLe)
open PySem.SeqAt PySem.Calls
/-! ### sorted(set(xs)), xs a list of tuples of ints -/
section
variable {prog : Program} {w : World} {A : Around} {E : Value → Shared → Prop} {s : Shared}
theorem back_f {α : Type} {f : α → List Int} {xs : List α} : ∀ {L1 : List (Addr × List Int)}, (∀ p ∈ L1, p.2 ∈ xs.map f) → ∃ bs : List α, bs.map f = L1.map (·.2)
  | [], _ => ⟨[], rfl⟩
  | p :: L1, h => by
    obtain ⟨bs, e⟩ := back_f (L1 := L1) fun q hq => h q (List.mem_cons_of_mem _ hq)
    obtain ⟨x, _, ex⟩ := List.mem_map.mp (h p List.mem_cons_self)
    exact ⟨x :: bs, by rw [List.map_cons, List.map_cons, e, ex]⟩
end
section
variable {X : Cx} {pins : List (Addr × Obj)} {σ : L2.St} {H : Hp} {s : Shared}
theorem each_keys {α : Type} {enc : α → PyData} {f : α → List Int} (hT : TupE enc f) {F : Hp} (le : SM.Le F H) (I : Inv X pins σ H s) : ∀ {L1 : List (Addr × List Int)} {bs : List α}, (∀ p ∈ L1, SqT X.K F p.1 (p.2.map V.int)) → bs.map f = L1.map (·.2) →
    EachIs (fun v b => ∃ u, RelV u v ∧ Dp X.K F u (enc b)) (L1.map fun p => Value.ref p.1) bs ∧ EachIs (fun v b => ∃ as, Reads s.heap v (enc b) as) (L1.map fun p => Value.ref p.1) bs
  | [], [], _, _ => ⟨.nil, .nil⟩
  | [], _ :: _, _, e => by cases e
  | _ :: _, [], _, e => by cases e
  | p :: L1, b :: bs, h, e => by
    injection e with e1 e2
    obtain ⟨r1, r2⟩ := each_keys hT le I (L1 := L1) (bs := bs) (fun q hq => h q (List.mem_cons_of_mem _ hq)) e2
    have dI : ∀ ns : List Int, DpAll X.K F (ns.map V.int) (ns.map PyData.int) := fun ns => dpAll_ints
    have d : Dp X.K F (.ref p.1) (enc b) := by
      rw [hT.eq]
      have hp := h p List.mem_cons_self
      have e1 : f b = p.2 := e1
      rw [← e1] at hp
      exact .tup hp (dI _)
    exact ⟨.cons ⟨.ref p.1, rfl, d⟩ r1, .cons (Dp.reads I _ _ _ (d.zmono le) rfl) r2⟩
def rSortedTD (K : PySem.W.Frag) (P : Program) (w : World) : List V → Hp → VK → Prop := fun vs H Q => ∃ (F : Hp) (α : Type) (_ : LtE α) (enc : α → PyData) (f : α → List Int) (n : Nat) (xs : List α) (a : Addr) (L : List (Addr × List Int)), SM.Le F H ∧ vs = [V.ref a] ∧ H a = some (SetTO P w a L) ∧ TupE enc f ∧ OrdE enc n ∧ n ≤ 60 ∧
  (∀ p ∈ L, SqT K F p.1 (p.2.map V.int)) ∧ (∀ p ∈ L, p.2 ∈ xs.map f) ∧
  ∀ ys : List α, (L.map (·.2)).Nodup → (ys.map f).Perm (L.map (·.2)) → ∀ (us' : List V) (p : Addr), DpAll K F us' ((sortB ys).map enc) → H p = none → Q (.ref p) (upd H p (.lst us'))
theorem cr_sortedSetT (hc : X.calm = true) (hu : X.A.units + 65 < cLine) : CallR X (.builtin "sorted") (rSortedTD X.K X.prog X.w) := by
  intro pins s σ H vs us0 Q I r h
  obtain ⟨F, α, iα, enc, f, n, xs, a, L, le, rfl, ha, hT, hO, hn, hk, hm, q⟩ := h
  rw [Vals.ref1 r]
  have R0 : SetT0 X.prog X.w s.heap a L := (I.hok a _ ha).1
  obtain ⟨es, ep, t, R⟩ := R0.full fun p hp => I.isT (le.sqT (hk p hp))
  obtain ⟨o, ho, hex, hd⟩ := R.ob
  have hsz := R.size
  have hfew := R.few
  have hh := I.ok.hd hc
  refine Calls.call_function_entry kind_sorted plain_sorted entry_sorted (args_sorted1 _) ?_
  unfold Builtin.«sorted»
  refine wpAny_bind (m := checkCount "sorted" 1 1 _) (wpAny_pure ?_)
  refine wpAny_bind (collect_set (A := X.A.in1) hh ⟨o, ho, hex.1, hd⟩ R.fits (by unfold scanBound; omega) R.tab.ris R.led fun s1 vs k1 hz g1 o1 pm => ?_)
  have hes : es.toList.map (·.2) = L.map fun q => Value.ref q.1 := by
    rw [R.rows]
    unfold rowsOf
    rw [List.map_map] <;> rfl
  rw [hes] at pm
  have ord : ∀ vs : List Value, (∀ v ∈ vs, ∃ q ∈ L, v = Value.ref q.1) → ∃ L1 : List (Addr × List Int), vs = L1.map (fun q => Value.ref q.1) ∧ ∀ q ∈ L1, q ∈ L := by
    intro vs
    induction vs with
    | nil => intro _; exact ⟨[], rfl, fun q hq => (by cases hq)⟩
    | cons v vs ih =>
      intro hv
      obtain ⟨q, hq, e⟩ := hv v List.mem_cons_self
      obtain ⟨L1, e1, hs⟩ := ih fun u hu => hv u (List.mem_cons_of_mem _ hu)
      refine ⟨q :: L1, by rw [List.map_cons, e, e1], fun r hr => ?_⟩
      rcases List.mem_cons.mp hr with z | z
      · rw [z]; exact hq
      · exact hs r z
  have one : ∀ q ∈ L, ∀ r ∈ L, q.1 = r.1 → q = r := fun q hq r hr e => by
    have a1 := R.tup q hq
    have a2 := R.tup r hr
    rw [e] at a1
    have e2 : q.2 = r.2 := a1.inj a2
    exact Prod.ext e e2
  obtain ⟨L1, eL, hsL⟩ := ord vs fun v hv => by
    obtain ⟨q, hq, e⟩ := List.mem_map.mp (pm.mem_iff.mp hv)
    exact ⟨q, hq, e.symm⟩
  have pL : L1.Perm L := by
    have nL : L.Nodup := nodup_of_map R.nd
    have nref : (L.map fun q => Value.ref q.1).Nodup := by
      refine List.pairwise_map.mpr (List.Pairwise.imp_of_mem (fun {q r} hq hr hne e => ?_) nL)
      injection e with e
      exact hne (one q hq r hr e)
    have pm1 : (L1.map (fun q => Value.ref q.1)).Perm (L.map fun q => Value.ref q.1) := by rw [← eL]; exact pm
    have n1 : L1.Nodup := nodup_of_map (pm1.nodup_iff.mpr nref)
    refine (List.perm_ext_iff_of_nodup n1 nL).mpr fun q => ⟨hsL q, fun hq => ?_⟩
    have hmm : Value.ref q.1 ∈ L1.map (fun q => Value.ref q.1) := pm1.mem_iff.mpr (List.mem_map.mpr ⟨q, hq, rfl⟩)
    obtain ⟨r, hr, e⟩ := List.mem_map.mp hmm
    injection e with e
    rw [← one r (hsL r hr) q hq e]
    exact hr
  obtain ⟨bs, hbs⟩ := back_f (f := f) (xs := xs) (L1 := L1) fun p hp => hm p (hsL p hp)
  have hvl : vs.length < 64 := by rw [eL, List.length_map, pL.length_eq]; exact hfew
  have hbl : bs.length = vs.length := by
    have := congrArg List.length hbs
    rw [List.length_map, List.length_map] at this
    rw [this, eL, List.length_map]
  obtain ⟨e, er⟩ := each_keys hT le I (L1 := L1) (bs := bs) (fun p hp => hk p (hsL p hp)) hbs
  rw [← eL] at e er
  refine wpAny_bind (wpAny_newList ?_ (by rw [sizeLine_eq]; omega))
  refine wpAny_bind (wpAny_holding (wpAny_call_entry_kw slot_list_sort ⟨_, Heap.get?_push_size _ rfl, rfl⟩ entry_list_sort ?_ (args_list_sort _)))
  have kk : ∀ b o, s.heap.get? b = some o → (sortingHeap (s1.heap.push (seqObj "list" vs.toArray 0)) s1.heap.objs.size vs).get? b = some o := fun b o q =>
    sortingHeap_old (Nat.ne_of_lt (Heap.lt_size (k1 b o q))) (Heap.get?_push_of_some _ (k1 b o q))
  have er' : EachIs (fun v b => ∃ as, Reads (sortingHeap (s1.heap.push (seqObj "list" vs.toArray 0)) s1.heap.objs.size vs) v (enc b) as) vs bs := er.mono fun _ _ ⟨as, r⟩ => ⟨as, PyProof.Rows.Reads.keeps kk r⟩
  have hal : AllAlike (bs.map enc) := PySem.W.AllAlike.of hO.al
  have fin : ∀ (out : List Value), out.length = bs.length → EachIs (fun v b => ∃ u, RelV u v ∧ Dp X.K F u (enc b)) out (bs.mergeSort (dataLe false enc)) → EP X pins σ Q (.ref s1.heap.objs.size) { s1 with heap := sortedHeap (s1.heap.push (seqObj "list" vs.toArray 0)) s1.heap.objs.size vs out.toArray } := fun out hout eo => by
    rw [hO.le] at eo
    obtain ⟨us', rv', hd'⟩ := each_back eo
    obtain ⟨ep, he'⟩ := PyProof.Rows.sortedHeap_at (h := s1.heap.push (seqObj "list" vs.toArray 0)) (vs := vs) (out := out.toArray) (Heap.get?_push_size _ rfl)
    have hol : us'.length ≤ sizeLine := by rw [rv'.length, hout, hbl, sizeLine_eq]; omega
    have kp : ∀ b u, s.heap.get? b = some u → (sortedHeap (s1.heap.push (seqObj "list" vs.toArray 0)) s1.heap.objs.size vs out.toArray).get? b = some u := fun b u e => by
      rw [PyProof.Rows.sortedHeap_old (Nat.ne_of_lt (Heap.lt_size (k1 b u e))) (by rw [size_push']; exact Nat.lt_succ_of_lt (Heap.lt_size (k1 b u e)))]
      exact Heap.get?_push_of_some _ (k1 b u e)
    have hn0 : H s1.heap.objs.size = none := I.hok.fresh hz
    have J : Inv X pins σ (upd H s1.heap.objs.size (.lst us')) { s with heap := sortedHeap (s1.heap.push (seqObj "list" vs.toArray 0)) s1.heap.objs.size vs out.toArray, gens := s1.gens, drawn := s1.drawn, toks := s1.toks } :=
      I.call (ch := []) (Un.laid kp hz hn0) (I.hok.laid kp hz ⟨hol, out, ep, rv', he'⟩) (by rw [g1]; exact I.bare) (fun _ z => nomatch z)
    refine ⟨.ref _, _, ?_, rfl, q bs R.nd (by rw [hbs]; exact pL.map _) us' _ hd' hn0⟩
    have es1 : ({ s1 with heap := sortedHeap (s1.heap.push (seqObj "list" vs.toArray 0)) s1.heap.objs.size vs out.toArray } : Shared) = { s with heap := sortedHeap (s1.heap.push (seqObj "list" vs.toArray 0)) s1.heap.objs.size vs out.toArray, gens := s1.gens, drawn := s1.drawn, toks := s1.toks } := by
      cases s1
      cases s
      cases o1
      rfl
    rw [es1]
    exact J
  refine wpAny_mono (list_sort_vals (s := { s1 with heap := s1.heap.push (seqObj "list" vs.toArray 0) }) (κ := dataKind (sortingHeap (s1.heap.push (seqObj "list" vs.toArray 0)) s1.heap.objs.size vs) (bs.map enc)) (P := fun fl s' => fl = .done (.ret .none) ∧ EP X pins σ Q (.ref s1.heap.objs.size) s') (Heap.get?_push_size _ rfl)
    (sortsAt_any (s := { s1 with heap := sortingHeap (s1.heap.push (seqObj "list" vs.toArray 0)) s1.heap.objs.size vs }) (each_map (R := fun v d => ∃ as, Reads (sortingHeap (s1.heap.push (seqObj "list" vs.toArray 0)) s1.heap.objs.size vs) v d as) enc er') hal (hO.sortable bs) (bound_map (A := X.A.in1.in1) fun b _ => by have := hO.dep b; show X.A.units + 2 + (enc b).depth < cLine; omega)) (by rw [sizeLine_eq]; omega) ⟨rfl, ?_⟩) (fun fl s' hf => ?_) fun _ _ e => e
  · exact fin _ (by rw [sortVals_length false rfl]; exact hbl.symm) (sortVals_data false e er' hal)
  · obtain ⟨rfl, hq⟩ := hf
    exact ⟨_, rfl, wpAny_pure ⟨_, rfl, hq⟩⟩
end
def sortSetTO {α : Type} [DecidableEq α] [LtE α] (xs : List α) : Option (List α) := if xs.length < 64 then some (sortB (dd xs)) else none
theorem perm_of_keys {α : Type} [DecidableEq α] {enc : α → PyData} {f : α → List Int} (hT : TupE enc f) {xs ys : List α} (h : (ys.map f).Perm ((dd xs).map f)) : ys.Perm (dd xs) := by
  have n2 : ((dd xs).map f).Nodup := List.pairwise_map.mpr ((dd_nodup xs).imp fun h e => h (hT.inj _ _ e))
  have n1 : ys.Nodup := nodup_of_map (h.nodup_iff.mpr n2)
  refine (List.perm_ext_iff_of_nodup n1 (dd_nodup xs)).mpr fun x => ⟨fun hx => ?_, fun hx => ?_⟩
  · obtain ⟨y, hy, e⟩ := List.mem_map.mp (h.mem_iff.mp (List.mem_map.mpr ⟨x, hx, rfl⟩))
    rw [← hT.inj _ _ e]; exact hy
  · obtain ⟨y, hy, e⟩ := List.mem_map.mp (h.mem_iff.mpr (List.mem_map.mpr ⟨x, hx, rfl⟩))
    rw [← hT.inj _ _ e]; exact hy
section
variable {S : Stat} {γ : Gm} {a : Expr} {pos p p2 q2 : Pos} {α : Type} [DecidableEq α] [iα : LtE α] {enc : α → PyData} {f : α → List Int} {xs ys : List α} {m : Nat}
theorem f_sortSetT (hT : TupE enc f) (hO : OrdE enc m) (hn : m ≤ 60) (hg : IsGl S "sorted") (hm : S.mg "sorted" = none) (hg2 : IsGl S "set") (hm2 : S.mg "set" = none) (ha : QJ S γ a .l (xs.map enc)) (hs : PlainE a) (hr : sortSetTO xs = some ys) (hs2 : PlainE (.Call (.Name "set" p2) [a] [] q2)) : FJ S γ (.Call (.Name "sorted" p) [.Call (.Name "set" p2) [a] [] q2] [] pos) (ys.map enc) := by
  unfold sortSetTO at hr
  split at hr
  case isFalse => cases hr
  rename_i hl
  cases hr
  exact w_b1 (r := rSortedTD S.K S.P S.w) (fun X hX => by rw [← hX.w, ← hX.prog, ← hX.K]; exact cr_sortedSetT hX.calm (by have := hX.room.un; omega)) hg hm boot_sorted hs2 (set_ewT hT hg2 hm2 ha hs hl) (fun v H0 F0 H F Q at_ x ⟨b, L, e1, _, h2, h3, h4, h5⟩ k2 => by
    subst e1
    refine ⟨F, α, iα, enc, f, m, xs, b, L, at_.hf.le, rfl, h2, hT, hO, hn, h3, h4, fun zs nd pz us' l hd hlz => ?_⟩
    have pm := dd_keys (xs := xs) hT nd (fun k hk => by
      obtain ⟨p, hp, e⟩ := List.mem_map.mp hk
      rw [← e]; exact h4 p hp) h5
    have pz2 : zs.Perm (dd xs) := perm_of_keys hT (pz.trans pm)
    have e : sortB zs = sortB (dd xs) := sortB_of (sortB_srt _) ((sortB_perm _).trans pz2.symm)
    rw [e] at hd
    exact k2 _ _ _ (at_.hf.newH hlz) (ex_newH hlz) ⟨l, us', rfl, x.h.back hlz, at_.hf.fnone hlz, upd_same, hd⟩) (by decide) (by decide)
end
end SM

set_option autoImplicit false
set_option Elab.async false
set_option linter.all false
set_option maxRecDepth 100000
set_option maxHeartbeats 4000000
namespace SM
open PySem PySem.Spec PyProof.Rows L2
/-! ### sorted(xs, reverse=True) of ints -/
theorem rev_eq {ns ms : List Int} (p : ms.Perm ns) (h : ms.Pairwise (· ≥ ·)) : ms = (sortB ns).reverse := by
  have e : sortB ns = ms.reverse := by
    refine sortB_of ?_ ((List.reverse_perm _).trans p)
    unfold Srt
    rw [List.pairwise_reverse]
    exact h.imp fun {a b} h => by
      show decide (a < b) = false
      exact decide_eq_false (by omega)
  rw [e, List.reverse_reverse]
section
variable {S : Stat} {γ : Gm} {a : Expr} {pos p p2 p3 : Pos} {ns : List Int}
theorem f_sortedRev {j : Nat} (hg : IsGl S "sorted") (hm : S.mg "sorted" = none) (ha : QJ S γ a .l (ns.map eI)) (hs : PlainE a) : FJ S γ (.Call (.Name "sorted" p) [a] [⟨some "reverse", .Constant (.bool true) j p2, p3⟩] pos) ((sortB ns).reverse.map eI) := fun σ H F at_ Q q =>
  wE_of (t := tCKw (rSortedKw S.K true [.bl true]) (tCons (wE S a) tNil) (tCons (tC (.bl true)) tNil)) (fun X hX => hX.K ▸ pe_callBK (ks := [Str.ofString "reverse"]) cr_sortedRev (hX.gl hg) (hX.mgn hm) boot_sorted (pa_cons (pe_w hX) pa_nil (hs [] X.env)) (pk_cons pe_bl pk_nil) (by decide) (by decide) (by rw [hs [] X.env]; rfl) (by rw [hs [] X.env]; rfl) rfl rfl rfl)
    (ha σ H F at_ _ fun v H1 F1 a1 x1 ⟨l, vs, e1, h1, h2⟩ => by
      subst e1
      obtain rfl := DpAll.ints h2
      refine ⟨l, ns, rfl, rfl, h1, fun ns' b pm ord hn => ?_⟩
      have e := rev_eq pm ord
      subst e
      exact q _ _ F1 (a1.ex (ex_newH hn) (a1.hf.newH hn)) (x1.trans (ex_newH hn)) ⟨b, _, rfl, x1.h.back hn, a1.hf.fnone hn, upd_same, dpAll_ints⟩)
end
end SM

set_option autoImplicit false
set_option Elab.async false
set_option linter.all false
set_option maxRecDepth 100000
set_option maxHeartbeats 4000000
namespace SM
open PySem PySem.Spec PySem.W PyProof.Rows L2
/-! ### x < y of alike data -/
def rLtD (K : PySem.W.Frag) : R2 := fun x y H Q => ∃ d e, Dp K H x d ∧ Dp K H y e ∧ alike d e = true ∧ d ≠ .none ∧ d.depth ≤ 64 ∧ Q (.bl (dataLt d e)) H
theorem op_ltD {X : Cx} (hu : X.A.units + 64 < cLine) : OpR X (compareOp .Lt) (rLtD X.K) := by
  intro pins s σ H x y v u Q I rx ry h
  obtain ⟨d, e, hd, he, ha, hn, hdep, q⟩ := h
  obtain ⟨as, r1⟩ := Dp.reads I d x v hd rx
  obtain ⟨bs, r2⟩ := Dp.reads I e y u he ry
  exact rcLt_alike d e X.A s v u as bs r1 r2 ha hn (by omega) X.prog X.w _ _ ⟨.bl _, H, I, rfl, q⟩
section
variable {S : Stat} {γ : Gm} {a b : Expr} {α : Type} [LtE α] {enc : α → PyData} {n : Nat} {x y : α}
theorem OrdE.nn' (hE : OrdE enc n) (x : α) : enc x ≠ .none := by
  rcases hE.kind with h | h
  · obtain ⟨xs, e⟩ := h x
    rw [e]; simp
  · exact (h x).1
theorem c_ltE (hE : OrdE enc n) (hn : n ≤ 64) (ha : EJ S γ a (enc x)) (hb : EJ S γ b (enc y)) : CJ S γ .Lt a b (LtE.lt x y) := by
  rw [← hE.lt]
  exact c_val (r := rLtD S.K) (fun X hX => hX.K ▸ op_ltD hX.room.units) ha hb fun v u H F Q at_ d1 d2 q => ⟨_, _, d1.zmono at_.hf.le, d2.zmono at_.hf.le, hE.al x y, hE.nn' x, Nat.le_trans (hE.dep x) hn, q⟩
end
end SM

set_option autoImplicit false
set_option Elab.async false
set_option linter.all false
set_option maxRecDepth 100000
set_option maxHeartbeats 4000000
namespace SM
open PySem PySem.Spec PyProof.Rows L2
/-! ### list comprehensions of any number of clauses -/
section
variable {elt tg iter tg1 iter1 : Expr} {ifs ifs1 : List Expr} {gens : List Comprehension} {scope : Scope} {pos : Pos} {d : Nat} {it acc : Value} {env : Env}
theorem turn_mid (h0 : gens[d]? = some ⟨tg, iter, ifs, 0⟩) (h1 : gens[d + 1]? = some ⟨tg1, iter1, ifs1, 0⟩) : compTurn (.ListComp elt gens scope pos) d it acc env = (do
      standAt iter.pos
      match ← pyNext it with
      | none => pure (.done .next)
      | some v =>
        letOwnedTupleGo tg it v
        assign tg env v
        let mut ok := true
        for c in ifs do
          if ok then ok ← isTrue c env (eval c env)
        if ok then
          let x ← eval iter1 env
          standAt iter1.pos
          let x ← foldedSetIterable iter1 env x
          let _ ← runOwn (.compStart (.ListComp elt gens scope pos) (d + 1) (← holding [x] (pyIter x)) acc env) env
        again (.compLoop (.ListComp elt gens scope pos) d it acc env)) := by
  unfold compTurn
  simp only [h0, h1]
  rfl
theorem turn_end (h0 : gens[d]? = some ⟨tg, iter, ifs, 0⟩) (h1 : gens[d + 1]? = none) : compTurn (.ListComp elt gens scope pos) d it acc env = (do
      standAt iter.pos
      match ← pyNext it with
      | none => pure (.done .next)
      | some v =>
        letOwnedTupleGo tg it v
        assign tg env v
        let mut ok := true
        for c in ifs do
          if ok then ok ← isTrue c env (eval c env)
        if ok then
          (do let _ ← call (.builtin "list.append") [acc, ← eval elt env])
        again (.compLoop (.ListComp elt gens scope pos) d it acc env)) := by
  unfold compTurn
  simp only [h0, h1]
  rfl
end
section
variable {prog : Program} {w : World} {A : Around} {R : Result → Shared → Prop} {elt tg iter tg1 iter1 : Expr} {ifs ifs1 : List Expr} {gens : List Comprehension} {scope : Scope} {pos : Pos} {d : Nat} {it acc : Value} {env : Env}
/-- what a turn goes through up to the tests, then K -/
def TurnTo (prog : Program) (w : World) (A : Around) (R : Result → Shared → Prop) (tg : Expr) (ifs : List Expr) (it : Value) (env : Env) (go : Shared → Prop) (K : Shared → Prop) (s : Shared) : Prop :=
  wpAny (model prog w) A (pyNext it) (fun r s1 => match r with
      | none => R (.ok .next) s1
      | some v => wpAny (model prog w) A (letOwnedTupleGo tg it v) (fun _ s2 => wpAny (model prog w) A (assign tg env v) (fun _ s3 =>
          wpAny (model prog w) A (forIn ifs true fun c r => if r = true then do let ok ← isTrue c env (eval c env); pure (ForInStep.yield ok) else pure (ForInStep.yield r)) (fun ok s4 =>
            if ok = true then K s4 else go s4) (notedBy (model prog w) A env fun e s' => R (.error e) s') s3) (notedBy (model prog w) A env fun e s' => R (.error e) s') s2) (notedBy (model prog w) A env fun e s' => R (.error e) s') s1) (notedBy (model prog w) A env fun e s' => R (.error e) s') s
theorem loop_mid (h0 : gens[d]? = some ⟨tg, iter, ifs, 0⟩) (h1 : gens[d + 1]? = some ⟨tg1, iter1, ifs1, 0⟩) (hs : ∀ x, foldedSetIterable iter1 env x = pure x) (I : Nat → Shared → Prop)
    (turn : ∀ n s, I n s → TurnTo prog w A R tg ifs it env (fun s4 => ∃ m, m < n ∧ I m s4) (fun s4 => wpAny (model prog w) A (eval iter1 env) (fun x s5 => wpAny (model prog w) A (pyIter x) (fun it1 s6 =>
              codeAny (model prog w) A (.compStart (.ListComp elt gens scope pos) (d + 1) it1 acc env) (fun r s' => match r with
                | .ok _ => ∃ m, m < n ∧ I m s'
                | .error _ => False) s6) (notedBy (model prog w) A env fun e s' => R (.error e) s') s5) (notedBy (model prog w) A env fun e s' => R (.error e) s') s4) s)
    (n : Nat) {s : Shared} (h : I n s) : codeAny (model prog w) A (.compLoop (.ListComp elt gens scope pos) d it acc env) R s := by
  refine codeAny_loop rfl I (fun n s hI => ?_) n h
  show wpAny _ A ((compTurn (.ListComp elt gens scope pos) d it acc env).onRaise (fun x => do noteFrame x env; theTreesLotGoes x)) _ _ s
  refine wpAny_noted ?_
  rw [turn_mid h0 h1]
  refine wpAny_bind (wpAny_standAt (wpAny_bind (wpAny_mono (turn n s hI) (fun r s1 k1 => ?_) fun _ _ z => z)))
  cases r with
  | none => exact wpAny_pure k1
  | some v =>
    refine wpAny_bind (wpAny_mono k1 (fun _ s2 k2 => wpAny_bind (wpAny_mono k2 (fun _ s3 k3 => wpAny_bind (wpAny_mono k3 (fun ok s4 k4 => ?_) fun _ _ z => z)) fun _ _ z => z)) fun _ _ z => z)
    cases ok with
    | false => exact wpAny_pure ⟨rfl, k4⟩
    | true =>
      refine wpAny_bind (wpAny_mono k4 (fun x s5 k5 => ?_) fun _ _ z => z)
      refine wpAny_bind (wpAny_standAt (wpAny_bind (wpAny_of_eq (hs x) (wpAny_bind (wpAny_holding (wpAny_mono k5 (fun it1 s6 k6 => ?_) fun _ _ z => z))))))
      refine wpAny_bind (wpAny_runOwn ?_)
      rw [Around.mark_none]
      refine codeAny_mono k6 fun r s' hr => ?_
      cases r with
      | ok f =>
        first
          | exact wpAny_pure ⟨rfl, hr⟩
          | exact wpAny_bind (wpAny_pure (wpAny_pure ⟨rfl, hr⟩))
      | error e => exact hr.elim
theorem loop_end (h0 : gens[d]? = some ⟨tg, iter, ifs, 0⟩) (h1 : gens[d + 1]? = none) (I : Nat → Shared → Prop)
    (turn : ∀ n s, I n s → TurnTo prog w A R tg ifs it env (fun s4 => ∃ m, m < n ∧ I m s4) (fun s4 => wpAny (model prog w) A (eval elt env) (fun x s5 =>
              wpAny (model prog w) A (call (.builtin "list.append") [acc, x]) (fun _ s6 => ∃ m, m < n ∧ I m s6) (notedBy (model prog w) A env fun e s' => R (.error e) s') s5) (notedBy (model prog w) A env fun e s' => R (.error e) s') s4) s)
    (n : Nat) {s : Shared} (h : I n s) : codeAny (model prog w) A (.compLoop (.ListComp elt gens scope pos) d it acc env) R s := by
  refine codeAny_loop rfl I (fun n s hI => ?_) n h
  show wpAny _ A ((compTurn (.ListComp elt gens scope pos) d it acc env).onRaise (fun x => do noteFrame x env; theTreesLotGoes x)) _ _ s
  refine wpAny_noted ?_
  rw [turn_end h0 h1]
  refine wpAny_bind (wpAny_standAt (wpAny_bind (wpAny_mono (turn n s hI) (fun r s1 k1 => ?_) fun _ _ z => z)))
  cases r with
  | none => exact wpAny_pure k1
  | some v =>
    refine wpAny_bind (wpAny_mono k1 (fun _ s2 k2 => wpAny_bind (wpAny_mono k2 (fun _ s3 k3 => wpAny_bind (wpAny_mono k3 (fun ok s4 k4 => ?_) fun _ _ z => z)) fun _ _ z => z)) fun _ _ z => z)
    cases ok with
    | false => exact wpAny_pure ⟨rfl, k4⟩
    | true => exact wpAny_bind (wpAny_bind (wpAny_mono k4 (fun x s5 k5 => wpAny_bind (wpAny_mono k5 (fun _ s6 k6 => wpAny_pure (wpAny_pure ⟨rfl, k6⟩)) fun _ _ z => z)) fun _ _ z => z))
theorem start_in {s : Shared} (hg : gens[d]? = some ⟨tg, iter, ifs, 0⟩) (h0 : codeAny (model prog w) A (.compLoop (.ListComp elt gens scope pos) d it acc env) R s)
    (h : wpAny (model prog w) A (pyIter it) (fun it' s' => codeAny (model prog w) A (.compLoop (.ListComp elt gens scope pos) d it' acc env) R s') (notedBy (model prog w) A env fun x s' => R (.error x) s') s) :
    codeAny (model prog w) A (.compStart (.ListComp elt gens scope pos) d it acc env) R s := by
  refine codeAny_of_tree ?_
  show wpAny _ _ ((compStart (.ListComp elt gens scope pos) d it acc env).onRaise (fun x => do noteFrame x env; standAt theWindowsPlace)) _ _ s
  refine wpAny_notedAt ?_
  unfold compStart
  have hc : clausesOf (.ListComp elt gens scope pos) = gens := rfl
  rw [hc, hg]
  show wpAny _ _ (ask >>= _) _ _ s
  refine wpAny_bind (wpAny_askSetting (wpAny_ite ?_))
  split
  · first
      | exact wpAny_bind (wpAny_pure (wpAny_pure (And.intro rfl h0)))
      | exact wpAny_pure (And.intro rfl h0)
  · first
      | exact wpAny_bind (wpAny_rule (wpAny_bind (wpAny_standAt (wpAny_bind (wpAny_mono h (fun it' s' k => wpAny_pure (And.intro rfl k)) fun _ _ x => x)))))
      | (refine wpAny_bind (wpAny_rule ?_); show wpAny _ _ (standAt iter.pos >>= _) _ _ s; exact wpAny_bind (wpAny_standAt (wpAny_bind (wpAny_mono h (fun it' s' k => wpAny_pure (And.intro rfl k)) fun _ _ x => x))))
end
end SM

set_option autoImplicit false
set_option Elab.async false
set_option linter.all false
set_option maxRecDepth 100000
set_option maxHeartbeats 4000000
namespace SM
open PySem PySem.Spec PyProof.Rows L2
/-! ### clauses, one within the other -/
/-- a clause's readings; vs: the names that it and those within it store -/
structure Cl where
  wi : TI
  g : TG
  tt : TT
  vs : List Nat
/-- the turns of a clause; Nx behind its last one -/
def clTurns (J : It) (c : Cl) (K : L2.St → Hp → (Hp → Prop) → Prop) (σ : L2.St) (Nx : Hp → Prop) (W : Nat → Nat → Hp → Prop) : Prop :=
  ∀ i m H, W i m H → (J.stop i H ∧ Nx H) ∨ (J.go i H ∧ ∃ Nx1 : Hp → Prop, (∀ H', Nx1 H' → ∃ m', m' < m ∧ W (i + 1) m' H') ∧
    ∀ x H', J.yld i H x H' → c.g x (L2.wipe σ c.vs) H' fun σ2 H2 => L2.wipe σ2 c.vs = L2.wipe σ c.vs ∧ c.tt σ2 H2 fun b H3 => if b = true then K σ2 H3 Nx1 else Nx1 H3)
def tCls (te : TE) (D : Addr) : List Cl → L2.St → Hp → (Hp → Prop) → Prop
  | [], σ, H, Nx => te σ H fun y H7 => ∃ acc, H7 D = some (.lst acc) ∧ acc.length < sizeLine ∧ Nx (upd H7 D (.lst (acc ++ [y])))
  | c :: cs, σ, H, Nx => c.wi σ H fun J H1 => ∃ W, (∃ m, W 0 m H1) ∧ clTurns J c (tCls te D cs) σ Nx W
def tLcN (te : TE) (c : Cl) (cs : List Cl) : TE := fun σ H Q => c.wi σ H fun J H1 => ∀ D, H1 D = none → ∃ W, (∃ m, W 0 m (upd H1 D (.lst []))) ∧ clTurns J c (tCls te D cs) σ (fun H => Q (.ref D) H) W
/-- the clauses from d on are those of cs -/
def ClsOk (Y : Cx) (gens : List Comprehension) : Nat → List Nat → List Cl → Prop
  | d, _, [] => gens[d]? = none
  | d, us, c :: cs => (∃ tg iter ifs, gens[d]? = some ⟨tg, iter, ifs, 0⟩ ∧ PI Y tg iter c.wi ∧ PG Y tg c.g ∧ PTs Y ifs c.tt ∧ (∀ env x, foldedSetIterable iter env x = pure x) ∧ ∀ i ∈ c.vs, i ∈ us) ∧ ClsOk Y gens (d + 1) c.vs cs
section
variable {Y : Cx} {elt tg iter : Expr} {ifs : List Expr} {gens : List Comprehension} {scope : Scope} {pos : Pos} {d : Nat} {D it : Addr} {fp : List Addr} {tn : Nat → Heap → Prop} {J : It} {c : Cl} {K : L2.St → Hp → (Hp → Prop) → Prop} {σ : L2.St} {Nx : Hp → Prop} {W : Nat → Nat → Hp → Prop} {pins : List (Addr × Obj)} {R : Result → Shared → Prop}
/-- what stands at a turn's start -/
def ClI (Y : Cx) (pins : List (Addr × Obj)) (σ : L2.St) (fp : List Addr) (tn : Nat → Heap → Prop) (W : Nat → Nat → Hp → Prop) : Nat → Shared → Prop := fun n s => ∃ i H, Inv Y pins σ H s ∧ tn i s.heap ∧ (∀ b ∈ fp, H b = none) ∧ W i n H
theorem cl_turn (hc : Y.calm = true) (hx : Y.xe = fun _ _ => False) (T : Turn Y.prog Y.w Y.K tg J fp it tn) (pg : PG Y tg c.g) (pt : PTs Y ifs c.tt) (stat : ∀ {H' : Hp}, (∀ b ∈ fp, H' b = none) → ∀ b ∈ fp, FpOk Y pins H' b) (hw : clTurns J c K σ Nx W)
    (hend : ∀ s H, Inv Y pins (L2.wipe σ c.vs) H s → Nx H → R (.ok .next) s) {n : Nat} {s : Shared} {Kc : Shared → Prop} (hI : ClI Y pins (L2.wipe σ c.vs) fp tn W n s)
    (hK : ∀ (s4 : Shared) (σ2 : L2.St) (H4 : Hp) (Nx1 : Hp → Prop) (pl : List (Addr × Obj)), Inv Y (pins ++ pl) σ2 H4 s4 → L2.wipe σ2 c.vs = L2.wipe σ c.vs → K σ2 H4 Nx1 →
      (∀ (s' : Shared) (σ9 : L2.St) (H' : Hp), Inv Y (pins ++ pl) σ9 H' s' → (L2.wipe σ c.vs).length = σ9.length → (∀ (j : Nat) v, (L2.wipe σ c.vs)[j]? = some (some v) → σ9[j]? = some (some v)) → Nx1 H' → ∃ m, m < n ∧ ClI Y pins (L2.wipe σ c.vs) fp tn W m s') → Kc s4) :
    TurnTo Y.prog Y.w Y.A R tg ifs (.ref it) Y.env (fun s4 => ∃ m, m < n ∧ ClI Y pins (L2.wipe σ c.vs) fp tn W m s4) Kc s := by
  obtain ⟨i, H, I, st, nf, w⟩ := hI
  unfold TurnTo
  rcases hw i n H w with ⟨stop, qq⟩ | ⟨go, Nx1, hNx, step⟩
  · refine thnF (T.done Y rfl rfl rfl hc i pins s _ H (fun _ _ => False) I (stat nf) st stop) fun r s1 ⟨hr, I1⟩ => ?_
    subst hr
    exact hend _ _ I1 qq
  · refine thnF (T.item Y rfl rfl rfl hc i pins s _ H (fun _ _ => False) I (stat nf) st go) fun r s1 ⟨u, hr, h1⟩ => ?_
    subst hr
    refine thnF h1 fun _ s2 ⟨x, H2, I2, r2, y2, st2, n2⟩ => ?_
    have I2' := I2.pinned (stat n2) (T.obj _ _ st2)
    have pgr := pg.run _ s2 _ H2 x u _ I2' r2 (step x H2 y2)
    rw [hx] at pgr
    refine thnF pgr fun _ s3 ⟨σ2, H3, I3, hw3, q3⟩ => ?_
    have ptr := pt.run _ s3 σ2 H3 _ I3 q3
    rw [hx] at ptr
    refine thnF ptr fun b s4 ⟨H4, I4, q4⟩ => ?_
    have fin : ∀ (s' : Shared) (σ9 : L2.St) (H' : Hp), Inv Y (pins ++ pinsAt fp s2.heap) σ9 H' s' → (L2.wipe σ c.vs).length = σ9.length → (∀ (j : Nat) v, (L2.wipe σ c.vs)[j]? = some (some v) → σ9[j]? = some (some v)) → Nx1 H' → ∃ m, m < n ∧ ClI Y pins (L2.wipe σ c.vs) fp tn W m s' := fun s' σ9 H' I' hl hk nx => by
      obtain ⟨m', hm, w'⟩ := hNx H' nx
      have pin' : ∀ b ∈ fp, ∀ o, s2.heap.get? b = some o → s'.heap.get? b = some o ∧ H' b = none := fun b hb o e =>
        let z := I'.pin (b, o) (List.mem_append_right _ (List.mem_append_right _ (mem_pinsAt hb e)))
        ⟨z.1, z.2.1⟩
      refine ⟨m', hm, i + 1, H', (I'.unpinned (pins := pins)).weak hl hk, T.keep _ _ _ st2 fun b hb o e => (pin' b hb o e).1, fun b hb => ?_, w'⟩
      obtain ⟨o, e, _⟩ := T.obj _ _ st2 b hb
      exact (pin' b hb o e).2
    cases b with
    | false =>
      simp only [Bool.false_eq_true, if_false] at q4 ⊢
      exact fin s4 σ2 H4 I4 (by rw [← hw3, wipe_length]) (fun j v e => by rw [← hw3] at e; exact (wipe_some e).1) q4
    | true =>
      simp only [if_true] at q4 ⊢
      exact hK s4 σ2 H4 Nx1 _ I4 hw3 q4 fin
theorem cl_loop (hc : Y.calm = true) (hx : Y.xe = fun _ _ => False) {te : TE} (pe : PE Y elt te) : ∀ (cs : List Cl) (d : Nat) (tg iter : Expr) (ifs : List Expr) (c : Cl) (J : It) (fp : List Addr) (it : Addr) (tn : Nat → Heap → Prop) (pins : List (Addr × Obj)) (σ : L2.St) (Nx : Hp → Prop) (W : Nat → Nat → Hp → Prop) (R : Result → Shared → Prop),
    gens[d]? = some ⟨tg, iter, ifs, 0⟩ → PG Y tg c.g → PTs Y ifs c.tt → ClsOk Y gens (d + 1) c.vs cs → Turn Y.prog Y.w Y.K tg J fp it tn → (∀ {H' : Hp}, (∀ b ∈ fp, H' b = none) → ∀ b ∈ fp, FpOk Y pins H' b) → clTurns J c (tCls te D cs) σ Nx W →
    (∀ s H, Inv Y pins (L2.wipe σ c.vs) H s → Nx H → R (.ok .next) s) → ∀ (n : Nat) (s : Shared), ClI Y pins (L2.wipe σ c.vs) fp tn W n s →
      codeAny (model Y.prog Y.w) Y.A (.compLoop (.ListComp elt gens scope pos) d (.ref it) (.ref D) Y.env) R s
  | [], d, tg, iter, ifs, c, J, fp, it, tn, pins, σ, Nx, W, R, h0, pg, pt, ok, T, stat, hw, hend, n, s, hI => by
    refine loop_end h0 ok (ClI Y pins (L2.wipe σ c.vs) fp tn W) (fun n s hI => ?_) n hI
    refine cl_turn hc hx T pg pt stat hw hend hI fun s4 σ2 H4 Nx1 pl I4 hw4 q4 fin => ?_
    have q4 : te σ2 H4 fun y H7 => ∃ acc, H7 D = some (.lst acc) ∧ acc.length < sizeLine ∧ Nx1 (upd H7 D (.lst (acc ++ [y]))) := q4
    have per := pe.run _ s4 σ2 H4 _ I4 q4
    rw [hx] at per
    refine thnF per fun z s5 ⟨yv, H5, I5, r5, acc, hD5, hz5, nx⟩ => ?_
    exact app_ok (X := Y) I5 hD5 hz5 r5 fun s6 I6 => fin s6 σ2 _ I6 (by rw [← hw4, wipe_length]) (fun j v e => by rw [← hw4] at e; exact (wipe_some e).1) nx
  | c1 :: cs, d, tg, iter, ifs, c, J, fp, it, tn, pins, σ, Nx, W, R, h0, pg, pt, ok, T, stat, hw, hend, n, s, hI => by
    obtain ⟨⟨tg1, iter1, ifs1, h1, pi1, pg1, pt1, hs1, hv1⟩, ok1⟩ := ok
    refine loop_mid h0 h1 (hs1 _) (ClI Y pins (L2.wipe σ c.vs) fp tn W) (fun n s hI => ?_) n hI
    refine cl_turn hc hx T pg pt stat hw hend hI fun s4 σ2 H4 Nx1 pl I4 hw4 q4 fin => ?_
    have q4 : c1.wi σ2 H4 fun J H1 => ∃ W, (∃ m, W 0 m H1) ∧ clTurns J c1 (tCls te D cs) σ2 Nx1 W := q4
    have pir := pi1.run _ s4 σ2 H4 _ I4 q4
    rw [hx] at pir
    refine thnF pir fun xv s5 h5 => ?_
    refine thnF h5 fun itv s6 h6 => ?_
    obtain ⟨it1, fp1, tn1, J1, H6, e1, I6, T1, st6, f6, W1, ⟨m1, w1⟩, turn1⟩ := h6
    subst e1
    have stat1 : ∀ {H' : Hp}, (∀ b ∈ fp1, H' b = none) → ∀ b ∈ fp1, FpOk Y (pins ++ pl) H' b := fun hn b hb => ⟨hn b hb, (f6 b hb).2⟩
    have lp : codeAny (model Y.prog Y.w) Y.A (.compLoop (.ListComp elt gens scope pos) (d + 1) (.ref it1) (.ref D) Y.env) (fun r s' => match r with
                | .ok _ => ∃ m, m < n ∧ ClI Y pins (L2.wipe σ c.vs) fp tn W m s'
                | .error _ => False) s6 := by
      refine cl_loop hc hx pe cs (d + 1) tg1 iter1 ifs1 c1 J1 fp1 it1 tn1 (pins ++ pl) σ2 Nx1 W1 _ h1 pg1 pt1 ok1 T1 stat1 turn1 (fun s' H' I' nx => ?_) m1 s6 ⟨0, H6, I6.weak (wipe_length _ _) (fun j v e => (wipe_some e).1), st6, fun b hb => (f6 b hb).1, w1⟩
      refine fin s' _ H' I' (by rw [← hw4, wipe_length, wipe_length]) (fun j v e => ?_) nx
      rw [← hw4] at e
      obtain ⟨e1, e2⟩ := wipe_some e
      rw [wipe_out fun z => e2 (hv1 j z)]
      exact e1
    exact start_in h1 lp (T1.self Y.A 0 _ _ _ st6 lp)
end
end SM

set_option autoImplicit false
set_option Elab.async false
set_option linter.all false
set_option maxRecDepth 100000
set_option maxHeartbeats 4000000
namespace SM
open PySem PySem.Spec PyProof.Rows L2
/-! ### the whole comprehension -/
section
variable {X : Cx}
/-- what is known of the clauses in the block -/
def BlkCls (X : Cx) (scope : Scope) (tg : Expr) (ifs : List Expr) (rest : List Comprehension) (gens : List Comprehension) (elt : Expr) (c : Cl) (cs : List Cl) (te : TE) : Prop :=
  ∀ (s : Shared) (H : Hp) (C : Addr) (cl : List (Str × Addr)) (fp : List Addr), PG (X.blk s H scope (compEnvC scope cl C X.env) fp) tg c.g ∧ PTs (X.blk s H scope (compEnvC scope cl C X.env) fp) ifs c.tt ∧ ClsOk (X.blk s H scope (compEnvC scope cl C X.env) fp) gens 1 c.vs cs ∧ PE (X.blk s H scope (compEnvC scope cl C X.env) fp) elt te
theorem lcN_core {pins : List (Addr × Obj)} {s : Shared} {σ : L2.St} {H : Hp} {Q : VK} {elt tg iter : Expr} {ifs : List Expr} {rest : List Comprehension} {scope : Scope} {own : List (Str × Nat)} {pos pos' : Pos} {c : Cl} {cs : List Cl} {te : TE} {use : Option (Value → Sem Unit)} {Qf : Value → Shared → Prop}
    (hc : X.calm = true) (hN : X.N.Nodup) (I : Inv X pins σ H s) (hi : PI X tg iter c.wi) (ok : BlkOk X.N X.env.scope scope own) (hv : c.vs = own.map (·.2)) (hb : BlkCls X scope tg ifs rest (⟨tg, iter, ifs, 0⟩ :: rest) elt c cs te)
    (hs : ∀ x, foldedSetIterable iter X.env x = pure x) (h : tLcN te c cs σ H Q)
    (hRR : ∀ D C s' m H', Inv X pins σ H' s' → Q (.ref D) H' → s'.heap.Ns C m → FpOk X pins H' C → compPost (model X.prog X.w) X.A X.xe use Qf (.ref D) C (.ok .next) s') :
    wpAny (model X.prog X.w) X.A (comprehension (.ListComp elt (⟨tg, iter, ifs, 0⟩ :: rest) scope pos) scope X.env pos' (newList []) false (eval iter X.env) use) Qf X.xe s := by
  have hfree : ∀ y ∈ scope.names, y.2 = .free → ∃ c, X.env.cells.lookup y.1 = some c := fun y hy e => by
    rcases ok.free y hy e with k | k
    · exact I.ok.has _ (.inl k)
    · exact I.ok.has _ (.inr k)
  refine wpAny_comprehension_free (use := use) rfl hs (closure_ok hfree) ok.kind (fun y hy e => by rw [ok.uniq y hy, e]) (thn (hi.run pins s σ H _ I h) fun xv s1 hx => thn hx fun itv s2 h2 => ?_)
  obtain ⟨it, fp, tn, J, H2, e, I2, T, st2, f2, q⟩ := h2
  subst e
  refine wpAny_newObj_type (newEnv_comp ?_) (by show 0 ≤ sizeLine; decide)
  generalize hD : s2.heap.objs.size = D
  have hDn : H2 D = none := I2.hok.fresh (Nat.le_of_eq hD)
  obtain ⟨W, ⟨m0, w0⟩, turn⟩ := q D hDn
  generalize hs3 : ({ s2 with heap := s2.heap.push { cls := .type "list", data := .seq ([] : List Value).toArray } } : Shared) = s3
  have I3 : Inv X pins σ (upd H2 D (.lst [])) s3 := by
    rw [← hs3]
    refine I2.laid (t' := s2.toks) (fun b o e => Heap.get?_push_of_some _ e) (Nat.le_of_eq hD) ⟨Nat.zero_le _, [], 0, .nil, ?_⟩
    rw [← hD]
    exact Heap.get?_push_size _ rfl
  have h3 : s3.heap = s2.heap.push { cls := .type "list", data := .seq ([] : List Value).toArray } := by rw [← hs3]
  have sz : ∀ b ∈ fp, b < s2.heap.objs.size := fun b hb => by
    obtain ⟨o, e, _⟩ := T.obj _ _ st2 b hb
    exact Heap.lt_size e
  have f3 : ∀ b ∈ fp, FpOk X pins (upd H2 D (.lst [])) b ∧ b < s3.heap.objs.size := fun b hb => by
    have hlt := sz b hb
    refine ⟨⟨?_, (f2 b hb).2⟩, by rw [h3, Heap.size_push]; exact Nat.lt_succ_of_lt hlt⟩
    rw [upd_ne (by rw [← hD]; exact Nat.ne_of_lt hlt)]
    exact (f2 b hb).1
  have st3 : tn 0 s3.heap := T.keep _ _ _ st2 fun b _ o e => by rw [h3]; exact Heap.get?_push_of_some _ e
  have I4 := block_start I3 ok hN f3
  obtain ⟨pg, pt, cls, pe⟩ := hb s3 (upd H2 D (.lst [])) s3.heap.objs.size (cellsFrom (s3.heap.objs.size + 1) scope.names (cloFrom X.env.cells scope.names [])) fp
  show codeAny _ _ (.compStart (.ListComp elt (⟨tg, iter, ifs, 0⟩ :: rest) scope pos) 0 (.ref it) (.ref D) (compEnvC scope (cellsFrom (s3.heap.objs.size + 1) scope.names (cloFrom X.env.cells scope.names [])) s3.heap.objs.size X.env)) (compPost (model X.prog X.w) X.A X.xe use Qf (.ref D) s3.heap.objs.size) { s3 with heap := pushCells (s3.heap.push { cls := .type "dict", data := .dict #[] }) scope.names }
  have nfp : ∀ b ∈ fp, (upd H2 D (.lst [])) b = none := fun b hb => (f3 b hb).1.1
  generalize hce : compEnvC scope (cellsFrom (s3.heap.objs.size + 1) scope.names (cloFrom X.env.cells scope.names [])) s3.heap.objs.size X.env = ce at I4 pg pt pe cls ⊢
  have cL : ce.locals = s3.heap.objs.size := by subst hce; rfl
  generalize hH3 : upd H2 D (.lst []) = H3 at I3 I4 pg pt pe cls w0 nfp f3
  generalize hs4 : ({ s3 with heap := pushCells (s3.heap.push { cls := .type "dict", data := .dict #[] }) scope.names } : Shared) = s4 at I4 ⊢
  have st4 : tn 0 s4.heap := T.keep _ _ _ st3 fun b _ o e => by rw [← hs4]; exact pushCells_keeps _ _ _ _ (Heap.get?_push_of_some _ e)
  have stat : ∀ {H' : Hp}, (∀ b ∈ fp, H' b = none) → ∀ b ∈ fp, FpOk (X.blk s3 H3 scope ce fp) [] H' b := fun {H'} hn b hb =>
    ⟨hn b hb, (I4.ok.exf b hb).1, I4.ok.exfs b hb, .inl hb, fun x c e => (I4.ok.exf b hb).2 x c e, fun p hp => absurd (show p ∈ ([] : List (Addr × Obj)) ++ [] from hp) (by simp)⟩
  have lp : codeAny (model X.prog X.w) X.A (.compLoop (.ListComp elt (⟨tg, iter, ifs, 0⟩ :: rest) scope pos) 0 (.ref it) (.ref D) ce) (compPost (model X.prog X.w) X.A X.xe use Qf (.ref D) s3.heap.objs.size) s4 := by
    have I4' : Inv (X.blk s3 H3 scope ce fp) [] (L2.wipe σ c.vs) H3 s4 := by rw [hv]; exact I4
    refine cl_loop (Y := X.blk s3 H3 scope ce fp) hc rfl pe cs 0 tg iter ifs c J fp it tn [] σ _ W _ rfl pg pt cls T stat turn (fun s6 H5 I6 qq => ?_) m0 s4 ⟨0, H3, I4', st4, nfp, w0⟩
    have I7 : Inv X pins σ H5 s6 := I3.call' (ch := fp) I6.os I6.base I6.hok I6.bare fun b hb => ⟨(f3 b hb).1.2.2.2.1, (f3 b hb).1.2.1, (f3 b hb).1.2.2.2.2.1, (f3 b hb).1.2.2.2.2.2⟩
    have nC : H5 s3.heap.objs.size = none := by
      have z : H5 ce.locals = none := I6.free
      rw [cL] at z
      exact z
    obtain ⟨m, hn, _⟩ := I6.loc
    have hn : s6.heap.Ns ce.locals m := hn
    rw [cL] at hn
    exact hRR D s3.heap.objs.size s6 m H5 I7 qq hn (I3.fpOk (Nat.le_refl _) nC)
  exact codeAny_compStart_list lp (T.self X.A 0 _ _ _ st4 lp)
theorem pe_lcN {elt tg iter : Expr} {ifs : List Expr} {rest : List Comprehension} {scope : Scope} {own : List (Str × Nat)} {pos : Pos} {c : Cl} {cs : List Cl} {te : TE} (hc : X.calm = true) (hN : X.N.Nodup) (hi : PI X tg iter c.wi) (ok : BlkOk X.N X.env.scope scope own) (hv : c.vs = own.map (·.2))
    (hb : BlkCls X scope tg ifs rest (⟨tg, iter, ifs, 0⟩ :: rest) elt c cs te) (hs : ∀ x, foldedSetIterable iter X.env x = pure x) : PE X (.ListComp elt (⟨tg, iter, ifs, 0⟩ :: rest) scope pos) (tLcN te c cs) := by
  refine ⟨fun pins s σ H Q I h => ?_⟩
  rw [eval_ListComp]
  refine lcN_core hc hN I hi ok hv hb hs h fun D C s' m H' I' q hn f => ⟨m, hn, fun h'' sb => ?_⟩
  obtain ⟨f0, f1, f2, f3, f4, f5⟩ := f
  exact ⟨.ref D, H', I'.turned (t' := s'.toks) (fun b o hb e => (sb.2 b hb).trans e) f0 f1 f3 f4 f5, rfl, q⟩
theorem ps_setLcN {i : Nat} {y : Str} {py : Pos} {elt tg iter : Expr} {ifs : List Expr} {rest : List Comprehension} {scope : Scope} {own : List (Str × Nat)} {pos spos : Pos} {c : Cl} {cs : List Cl} {te : TE} (hc : X.calm = true) (hN : X.N.Nodup) (hy : X.N[i]? = some y) (hyl : X.env.scope.names.lookup y = some .local)
    (hsw : swapsWith (.ListComp elt (⟨tg, iter, ifs, 0⟩ :: rest) scope pos) (some (.Name y py)) spos.line X.env = pure true) (hi : PI X tg iter c.wi) (ok : BlkOk X.N X.env.scope scope own) (hv : c.vs = own.map (·.2))
    (hb : BlkCls X scope tg ifs rest (⟨tg, iter, ifs, 0⟩ :: rest) elt c cs te) (hs : ∀ x, foldedSetIterable iter X.env x = pure x) : PS X (.Assign [.Name y py] (.ListComp elt (⟨tg, iter, ifs, 0⟩ :: rest) scope pos) spos) (tAsg (tLcN te c cs) (gName i)) := by
  refine ⟨fun pins s σ H D I h => ?_⟩
  rw [exec_Assign_Name_used _ _ _ _ hsw]
  refine wpAny_bind (wpAny_standAt (wpAny_bind ?_))
  show wpAny _ X.A (do let _ ← comprehension (.ListComp elt (⟨tg, iter, ifs, 0⟩ :: rest) scope pos) scope X.env (firstIterPos (⟨tg, iter, ifs, 0⟩ :: rest) pos) (newList []) false (eval iter X.env) (some (assign (.Name y py) X.env))) _ _ s
  have h : tLcN te c cs σ H (fun x H1 => gName i x σ H1 D.nx) := h
  refine wpAny_bind (thn (lcN_core (Qf := fun _ s' => SP X pins D .next s') hc hN I hi ok hv hb hs h fun L C s' m H' I' q hn f => ?_) fun _ s' hq => wpAny_pure (wpAny_pure hq))
  show wpAny _ _ (assign (.Name y py) X.env (.ref L)) _ _ _
  refine wpAny_assign_Name (store_ok2 (v := V.ref L) I' hN hy (.inl hyl) rfl (fun s2 I2 ⟨a, sb, ha⟩ => ?_) (.inr hyl))
  obtain ⟨f0, f1, f2, f3, f4, f5⟩ := f
  have haC : C ≠ a := by
    rcases ha with z | z
    · rw [z]; exact f1
    · exact fun e => f4 y a z e.symm
  refine ⟨m, hn.sameBut sb haC, fun h3 sb3 => ?_⟩
  exact ⟨_, H', I2.turned (t' := s2.toks) (fun b o hb e => (sb3.2 b hb).trans e) f0 f1 f3 f4 f5, q⟩
end
end SM

set_option autoImplicit false
set_option Elab.async false
set_option linter.all false
set_option maxRecDepth 100000
set_option maxHeartbeats 4000000
namespace SM
open PySem PySem.Spec PyProof.Rows L2
/-! ### clauses as data -/
/-- what outlives the clauses' steps -/
structure Fr (S : Stat) (D : Addr) (P : Hp → Hp → Prop) : Prop where
  ex : ∀ {H F H' F' : Hp}, P H F → HF H' F' → Ex2 S.tabs H F H' F' → P H' F'
  mt : ∀ {H F : Hp} {us o : List V}, P H F → F D = none → H D = some (.lst us) → P (upd H D (.lst o)) F
/-- K, from the slots of γ, puts rs at the end of the list at D -/
def BJ {κ : Type} (S : Stat) (encC : κ → PyData) (γ : Gm) (K : Addr → L2.St → Hp → (Hp → Prop) → Prop) (rs : List κ) : Prop :=
  ∀ (D : Addr) (H1 F1 : Hp), H1 D = none → S.B D = none → ∀ P, Fr S D P → ∀ σ H F acc, At S γ σ H F → Loose γ σ D → P H F → LcAt S encC H1 F1 D acc H F → acc.length + rs.length ≤ 16777216 →
    ∀ Nx : Hp → Prop, (∀ H' F', P H' F' → LcAt S encC H1 F1 D (acc ++ rs) H' F' → Nx H') → K D σ H Nx
/-- a turn of a clause for d -/
def CN {κ : Type} (S : Stat) (encC : κ → PyData) (γ : Gm) (tg : Expr) (ifs : List Expr) (vs : List Nat) (d : PyData) (K : Addr → L2.St → Hp → (Hp → Prop) → Prop) (rs : List κ) : Prop :=
  ∃ γ2 is kk, GJ S γ tg d γ2 is ∧ (∀ i ∈ is, i ∈ vs) ∧ TsJ S γ2 ifs kk ∧ (kk = false → rs = []) ∧ (kk = true → BJ S encC γ2 K rs) ∧ owSub γ γ2 is = true
section
variable {S : Stat} {γ : Gm} {elt tg iter : Expr} {ifs : List Expr} {vs : List Nat} {κ τ : Type} {encC : κ → PyData} {encB : τ → PyData}
theorem At.mutD {γ : Gm} {σ : L2.St} {H F : Hp} {D : Addr} {us o : List V} (a : At S γ σ H F) (l : Loose γ σ D) (hB : S.B D = none) (f1 : F D = none) (f2 : H D = some (.lst us)) : At S γ σ (upd H D (.lst o)) F :=
  a.mut l f1 hB (fun ps z => by rw [f2] at z; cases z) (NotCode.lst f2)
theorem bj_elt {c : κ} (ed : EJ S γ elt (encC c)) : BJ S encC γ (fun D => tCls (wE S elt) D []) [c] := fun D H1 F1 hD hB P fr σ H F acc at_ lo p L hl Nx hN => by
  refine ed σ H F at_ _ fun z H' F' a x dz => ?_
  have L' := L.ex a.hf x
  obtain ⟨us, hus, hul, L2⟩ := L'.app hD dz
  refine ⟨us, hus, ?_, hN _ _ (fr.mt (fr.ex p a.hf x) L'.1 hus) L2⟩
  rw [hul, sizeLine_eq]
  simp only [List.length_cons, List.length_nil] at hl
  omega
/-- a turn, and what follows it -/
def TJn (S : Stat) (encC : κ → PyData) (γ : Gm) (tg : Expr) (ifs : List Expr) (vs : List Nat) (d : PyData) (K : Addr → L2.St → Hp → (Hp → Prop) → Prop) (rs : List κ) : Prop :=
  ∀ {D : Addr} {H1 F1 : Hp}, H1 D = none → S.B D = none → ∀ {P : Hp → Hp → Prop}, Fr S D P → ∀ {σ : L2.St} {H F : Hp} {acc : List κ} {x : V}, At S γ σ H F → Loose γ σ D → P H F → LcAt S encC H1 F1 D acc H F → Dp S.K F x d → acc.length + rs.length ≤ 16777216 → ∀ {Nx : Hp → Prop}, (∀ H' F', P H' F' → LcAt S encC H1 F1 D (acc ++ rs) H' F' → Nx H') →
    wG S tg x (L2.wipe σ vs) H fun σ2 H2 => L2.wipe σ2 vs = L2.wipe σ vs ∧ tTs S ifs σ2 H2 fun b H3 => if b = true then K D σ2 H3 Nx else Nx H3
theorem cn_turn {d : PyData} {K : Addr → L2.St → Hp → (Hp → Prop) → Prop} {rs : List κ} (h : CN S encC (wipeG γ vs) tg ifs vs d K rs) : TJn S encC γ tg ifs vs d K rs := by
  intro D H1 F1 hD hB P fr σ H F acc x at_ lo p L dx hl Nx hN
  obtain ⟨γ2, is, kk, g, hsub, ts, kf, kt, how⟩ := h
  refine g _ H F x (at_.wipe vs) dx _ fun σ2 b2 l2 n2 => ⟨wipe_ext l2 n2 hsub, ?_⟩
  have lo2 : Loose γ2 σ2 D := owSub_loose how (lo.wipe vs) n2
  have fin : ∀ {k' : Bool}, k' = kk → ∀ {H5 F5 : Hp}, At S γ2 σ2 H5 F5 → P H5 F5 → LcAt S encC H1 F1 D acc H5 F5 → if k' = true then K D σ2 H5 Nx else Nx H5 := by
    intro k' ek H5 F5 b5 p5 L5
    subst ek
    cases k' with
    | false =>
      rw [if_neg Bool.false_ne_true]
      refine hN H5 F5 p5 ?_
      rw [kf rfl, List.append_nil]
      exact L5
    | true =>
      rw [if_pos rfl]
      exact kt rfl D H1 F1 hD hB P fr σ2 H5 F5 acc b5 lo2 p5 L5 hl Nx hN
  rcases ts with ⟨e1, e2⟩ | ⟨cc, e1, tc⟩
  · subst e1
    exact fin e2.symm b2 p L
  · subst e1
    exact tc σ2 H F b2 _ fun H5 F5 b5 x5 => fin rfl b5 (fr.ex p b5.hf x5) (L.ex b5.hf x5)
theorem cb_turn {d : PyData} {r : Option κ} (h : CB S (wipeG γ vs) tg ifs elt vs d (r.map encC)) : TJn S encC γ tg ifs vs d (fun D => tCls (wE S elt) D []) r.toList := by
  intro D H1 F1 hD hB P fr σ H F acc x at_ lo p L dx hl Nx hN
  obtain ⟨γ2, is, kk, g, hsub, ts, kf, kt⟩ := h
  refine g _ H F x (at_.wipe vs) dx _ fun σ2 b2 l2 n2 => ⟨wipe_ext l2 n2 hsub, ?_⟩
  have fin : ∀ {k' : Bool}, k' = kk → ∀ {H5 F5 : Hp}, At S γ2 σ2 H5 F5 → P H5 F5 → LcAt S encC H1 F1 D acc H5 F5 → if k' = true then tCls (wE S elt) D [] σ2 H5 Nx else Nx H5 := by
    intro k' ek H5 F5 b5 p5 L5
    subst ek
    cases k' with
    | false =>
      rw [if_neg Bool.false_ne_true]
      refine hN H5 F5 p5 ?_
      have : r = none := by
        have := kf rfl
        cases r with
        | none => rfl
        | some b => cases this
      subst this
      rw [Option.toList_none, List.append_nil]
      exact L5
    | true =>
      rw [if_pos rfl]
      obtain ⟨d', eo, ed⟩ := kt rfl
      obtain ⟨b, rfl, rfl⟩ : ∃ b, r = some b ∧ d' = encC b := by
        cases r with
        | none => cases eo
        | some b => exact ⟨b, rfl, (Option.some.inj eo).symm⟩
      refine ed σ2 H5 F5 b5 _ fun z H' F' a x dz => ?_
      have L' := L5.ex a.hf x
      obtain ⟨us, hus, hul, L2⟩ := L'.app hD dz
      refine ⟨us, hus, ?_, hN _ _ (fr.mt (fr.ex p5 a.hf x) L'.1 hus) L2⟩
      rw [hul, sizeLine_eq]
      simp only [Option.toList_some, List.length_cons, List.length_nil] at hl
      omega
  rcases ts with ⟨e1, e2⟩ | ⟨cc, e1, tc⟩
  · subst e1
    exact fin e2.symm b2 p L
  · subst e1
    exact tc σ2 H F b2 _ fun H5 F5 b5 x5 => fin rfl b5 (fr.ex p b5.hf x5) (L.ex b5.hf x5)
theorem bj_clause {cs : List Cl} {te : TE} {ys : List τ} {rs : τ → List κ} (hi : IF S γ tg iter (ys.map encB)) (hb : ∀ y ∈ ys, TJn S encC γ tg ifs vs (encB y) (fun D => tCls te D cs) (rs y)) :
    BJ S encC γ (fun D => tCls te D (⟨wI S tg iter, wG S tg, tTs S ifs, vs⟩ :: cs)) (ys.flatMap rs) := fun D H1 F1 hD hB P fr σ H F acc at_ lo p L hl Nx hN => by
  show wI S tg iter σ H fun J H1 => ∃ W, (∃ m, W 0 m H1) ∧ clTurns J ⟨wI S tg iter, wG S tg, tTs S ifs, vs⟩ (tCls te D cs) σ Nx W
  refine hi σ H F at_ _ fun J H6 F6 b6 x6 hz6 w6 => ?_
  have p6 := fr.ex p b6.hf x6
  have L6 := L.ex b6.hf x6
  -- the frame of the turns
  have fr2 : Fr S D fun H F => P H F ∧ At S γ σ H F ∧ Le F6 F := ⟨fun q hf x => ⟨fr.ex q.1 hf x, q.2.1.ex x hf, q.2.2.trans x.f⟩, fun q f1 f2 => ⟨fr.mt q.1 f1 f2, q.2.1.mutD lo hB f1 f2, q.2.2⟩⟩
  refine ⟨fun j m H7 => ∃ F7 acc7, P H7 F7 ∧ At S γ σ H7 F7 ∧ Le F6 F7 ∧ LcAt S encC H1 F1 D acc7 H7 F7 ∧ acc ++ ys.flatMap rs = acc7 ++ (ys.drop j).flatMap rs ∧ m = ys.length - j ∧ j ≤ ys.length,
    ⟨_, F6, acc, p6, b6, Le.refl _, L6, rfl, rfl, Nat.zero_le _⟩, ?_⟩
  rintro j m H7 ⟨F7, acc7, p7, b7, le7, L7, e7, hm, hj7⟩
  have l67 : Le F6 H7 := le7.trans b7.hf.le
  by_cases hj : j < ys.length
  · have hjl : j < (ys.map encB).length := by rw [List.length_map]; exact hj
    have hyj : (ys.map encB)[j]? = some (encB ys[j]) := by rw [List.getElem?_map, List.getElem?_eq_getElem hj]; rfl
    rw [List.drop_eq_getElem_cons hj, List.flatMap_cons, ← List.append_assoc] at e7
    refine .inr ⟨w6.goes j H7 hjl l67, fun H' => ∃ F', (P H' F' ∧ At S γ σ H' F' ∧ Le F6 F') ∧ LcAt S encC H1 F1 D (acc7 ++ rs ys[j]) H' F', fun H' ⟨F', ⟨q1, q2, q3⟩, q4⟩ => ⟨ys.length - (j + 1), by omega, F', _, q1, q2, q3, q4, e7, rfl, hj⟩, fun y H8 hy8 => ?_⟩
    obtain ⟨F8, b8, x8, dy⟩ := yd_take b7 le7 hyj (w6.yields j H7 y H8 hjl l67 hy8)
    have hl2 : acc7.length + (rs ys[j]).length ≤ 16777216 := by
      have := congrArg List.length e7
      simp only [List.length_append] at this
      omega
    exact hb ys[j] (List.getElem_mem hj) hD hB fr2 b8 lo ⟨fr.ex p7 b8.hf x8, b8, le7.trans x8.f⟩ (L7.ex b8.hf x8) dy hl2 fun H' F' q L' => ⟨F', q, L'⟩
  · have e9 : j = ys.length := by omega
    refine .inl ⟨?_, hN H7 F7 p7 ?_⟩
    · have := w6.stops H7 l67
      rw [List.length_map, ← e9] at this
      exact this
    · rw [e7, List.drop_eq_nil_of_le (by omega)]
      simpa using L7
/-- the whole -/
theorem lcN_read {σ : L2.St} {H F : Hp} {scope : Scope} {cs : List Cl} {te : TE} {xs : List τ} {rs : τ → List κ} (hi : IX S γ tg iter (xs.map encB)) (hb : ∀ x ∈ xs, TJn (S.blk scope) encC γ tg ifs vs (encB x) (fun D => tCls te D cs) (rs x)) (hlim : (xs.flatMap rs).length ≤ 16777216) (at_ : At S γ σ H F) {Q : VK}
    (q : ∀ v H' F', At S γ σ H' F' → Ex2 S.tabs H F H' F' → (∃ a us, v = .ref a ∧ H a = none ∧ F' a = none ∧ H' a = some (.lst us) ∧ DpAll S.K F' us ((xs.flatMap rs).map encC)) → Q v H') :
    tLcN te ⟨wI S tg iter, wG (S.blk scope) tg, tTs (S.blk scope) ifs, vs⟩ cs σ H Q := by
  show wI S tg iter σ H _
  refine hi σ H F at_ _ fun J H1 F1 a1 x1 hz w D hD => ?_
  have bD : S.B D = none := a1.ext.back hD
  have lo : Loose γ σ D := Loose.new a1 hD
  have fr2 : Fr (S.blk scope) D fun H F => At S γ σ H F := ⟨fun q hf x => q.ex x hf, fun q f1 f2 => q.mutD lo bD f1 f2⟩
  refine ⟨fun i m H3 => ∃ F3 acc, At S γ σ H3 F3 ∧ LcAt S encC H1 F1 D acc H3 F3 ∧ xs.flatMap rs = acc ++ (xs.drop i).flatMap rs ∧ m = xs.length - i ∧ i ≤ xs.length,
    ⟨_, F1, [], a1.ex (ex_newH hD) (a1.hf.newH hD), ⟨a1.hf.fnone hD, ⟨[], upd_same, .nil⟩, ex_newH hD⟩, rfl, rfl, Nat.zero_le _⟩, ?_⟩
  rintro i m H3 ⟨F3, acc, a3, L3, e3, hm, hile⟩
  by_cases hi : i < xs.length
  · have hil : i < (xs.map encB).length := by rw [List.length_map]; exact hi
    have hx : (xs.map encB)[i]? = some (encB xs[i]) := by rw [List.getElem?_map, List.getElem?_eq_getElem hi]; rfl
    rw [List.drop_eq_getElem_cons hi, List.flatMap_cons, ← List.append_assoc] at e3
    refine .inr ⟨w.goes i H3 hil L3.2.2.h, fun H' => ∃ F', At S γ σ H' F' ∧ LcAt S encC H1 F1 D (acc ++ rs xs[i]) H' F', fun H' ⟨F', q1, q2⟩ => ⟨xs.length - (i + 1), by omega, F', _, q1, q2, e3, rfl, hi⟩, fun x H4 hy => ?_⟩
    obtain ⟨F4, a4, x4, dx⟩ := yd_take a3 L3.2.2.f hx (w.yields i H3 x H4 hil L3.2.2.h hy)
    have hl2 : acc.length + (rs xs[i]).length ≤ 16777216 := by
      have := congrArg List.length e3
      simp only [List.length_append] at this
      omega
    exact hb xs[i] (List.getElem_mem hi) hD bD fr2 (a4.blk scope) lo a4 (L3.ex a4.hf x4) dx hl2 fun H' F' q L' => ⟨F', q, L'⟩
  · have e9 : i = xs.length := by omega
    rw [List.drop_eq_nil_of_le (by omega), List.flatMap_nil, List.append_nil] at e3
    obtain ⟨us, h2, h3⟩ := L3.2.1
    refine .inl ⟨?_, q _ H3 F3 a3 (x1.trans L3.2.2) ⟨D, us, rfl, x1.h.back hD, L3.1, h2, by rw [e3]; exact h3⟩⟩
    have := w.stops H3 L3.2.2.h
    rw [List.length_map, ← e9] at this
    exact this
end
end SM

set_option autoImplicit false
set_option Elab.async false
set_option linter.all false
set_option maxRecDepth 100000
set_option maxHeartbeats 4000000
namespace SM
open PySem PySem.Spec PyProof.Rows L2
/-! ### list comprehensions of three clauses, by what may fail -/
def flatM {α κ : Type} (g : α → Option (List κ)) : List α → Option (List κ)
  | [] => some []
  | x :: xs => (g x).bind fun r => (flatM g xs).bind fun s => some (r ++ s)
def limO {κ : Type} (zs : List κ) : Option (List κ) := if zs.length ≤ 16777216 then some zs else none
theorem flatM_get {α κ : Type} {g : α → Option (List κ)} : ∀ {xs : List α} {r : List κ}, flatM g xs = some r → (∀ x ∈ xs, g x = some ((g x).getD [])) ∧ r = xs.flatMap fun x => (g x).getD []
  | [], r, h => ⟨fun x hx => (by cases hx), (Option.some.inj h).symm⟩
  | x :: xs, r, h => by
    unfold flatM at h
    obtain ⟨a, h1, h⟩ := Option.bind_eq_some_iff.mp h
    obtain ⟨b, h2, h⟩ := Option.bind_eq_some_iff.mp h
    obtain ⟨h3, h4⟩ := flatM_get h2
    cases h
    refine ⟨fun y hy => ?_, by rw [List.flatMap_cons, h1, ← h4]; rfl⟩
    rcases List.mem_cons.mp hy with rfl | hy
    · rw [h1]; rfl
    · exact h3 y hy
theorem compM_flat {α κ : Type} {f : α → Option (Option κ)} : ∀ xs : List α, compM f xs = flatM (fun x => (f x).map Option.toList) xs
  | [] => rfl
  | x :: xs => by
    unfold compM flatM
    rw [compM_flat xs]
    cases f x with
    | none => rfl
    | some o => cases o <;> rfl
section
variable {S : Stat} {γ γ2 : Gm} {elt tg iter tg1 iter1 tg2 iter2 : Expr} {ifs ifs1 ifs2 : List Expr} {vs vs1 vs2 is : List Nat} {κ τ υ : Type} {encC : κ → PyData} {encB : τ → PyData} {K : Addr → L2.St → Hp → (Hp → Prop) → Prop} {d : PyData}
def TO (S : Stat) (encC : κ → PyData) (γ : Gm) (tg : Expr) (ifs : List Expr) (vs : List Nat) (d : PyData) (K : Addr → L2.St → Hp → (Hp → Prop) → Prop) (o : Option (List κ)) : Prop := ∀ rs, o = some rs → TJn S encC γ tg ifs vs d K rs
def BO (S : Stat) (encC : κ → PyData) (γ : Gm) (K : Addr → L2.St → Hp → (Hp → Prop) → Prop) (o : Option (List κ)) : Prop := ∀ rs, o = some rs → BJ S encC γ K rs
theorem bo_bind {o : Option υ} {k : υ → Option (List κ)} (h : ∀ t, o = some t → BO S encC γ K (k t)) : BO S encC γ K (o.bind k) := fun rs e => by
  obtain ⟨t, h1, h2⟩ := Option.bind_eq_some_iff.mp e
  exact h t h1 rs h2
theorem tn_bind {o : Option υ} {k : υ → Option (List κ)} (h : ∀ t, o = some t → TO S encC γ tg ifs vs d K (k t)) : TO S encC γ tg ifs vs d K (o.bind k) := fun rs e => by
  obtain ⟨t, h1, h2⟩ := Option.bind_eq_some_iff.mp e
  exact h t h1 rs h2
theorem tn_0 {o : Option (List κ)} (g : GJ S (wipeG γ vs) tg d γ2 is) (hs : ∀ i ∈ is, i ∈ vs) (h : BO S encC γ2 K o) (how : owSub (wipeG γ vs) γ2 is = true) : TO S encC γ tg [] vs d K o := fun rs e =>
  cn_turn ⟨γ2, is, true, g, hs, .inl ⟨rfl, rfl⟩, (fun z => by cases z), fun _ => h rs e, how⟩
theorem tn_1 {c : Expr} {k : Bool} {o : Option (List κ)} (g : GJ S (wipeG γ vs) tg d γ2 is) (hs : ∀ i ∈ is, i ∈ vs) (hc : TJ S γ2 c k) (h : k = true → BO S encC γ2 K o) (how : owSub (wipeG γ vs) γ2 is = true) : TO S encC γ tg [c] vs d K (if k = true then o else some []) := fun rs e => by
  refine cn_turn ⟨γ2, is, k, g, hs, .inr ⟨c, rfl, hc⟩, fun z => ?_, fun z => ?_, how⟩
  · subst z
    rw [if_neg Bool.false_ne_true] at e
    exact (Option.some.inj e).symm
  · rw [if_pos z] at e
    exact h z rs e
theorem bo_clause {cs : List Cl} {te : TE} {ys : List τ} {g : τ → Option (List κ)} (hi : IF S γ tg iter (ys.map encB)) (hb : ∀ y ∈ ys, TO S encC γ tg ifs vs (encB y) (fun D => tCls te D cs) (g y)) :
    BO S encC γ (fun D => tCls te D (⟨wI S tg iter, wG S tg, tTs S ifs, vs⟩ :: cs)) (flatM g ys) := fun rs e => by
  obtain ⟨h1, h2⟩ := flatM_get e
  subst h2
  exact bj_clause hi fun y hy => hb y hy _ (h1 y hy)
theorem bo_leaf {ys : List τ} {f : τ → Option (Option κ)} (hi : IF S γ tg iter (ys.map encB)) (hb : ∀ y ∈ ys, CBO S (wipeG γ vs) tg ifs elt vs (encB y) encC (f y)) :
    BO S encC γ (fun D => tCls (wE S elt) D (⟨wI S tg iter, wG S tg, tTs S ifs, vs⟩ :: [])) (compM f ys) := by
  rw [compM_flat]
  refine bo_clause hi fun y hy rs e => ?_
  obtain ⟨r, h1, rfl⟩ := Option.map_eq_some_iff.mp e
  exact cb_turn (hb y hy r h1)
end
section
variable {S : Stat} {γ : Gm} {σ : L2.St} {elt tg iter tg1 iter1 tg2 iter2 : Expr} {ifs ifs1 ifs2 : List Expr} {scope : Scope} {own : List (Str × Nat)} {vs1 vs2 : List Nat} {pos : Pos} {τ κ : Type} {encA : τ → PyData} {encC : κ → PyData} {xs : List τ} {zs : List κ} {g : τ → Option (List κ)}
def lcNM (g : τ → Option (List κ)) (xs : List τ) : Option (List κ) := (flatM g xs).bind limO
/-- the second and the third clause -/
def cls3 (S : Stat) (tg1 iter1 tg2 iter2 : Expr) (ifs1 ifs2 : List Expr) (vs1 vs2 : List Nat) : List Cl := [⟨wI S tg1 iter1, wG S tg1, tTs S ifs1, vs1⟩, ⟨wI S tg2 iter2, wG S tg2, tTs S ifs2, vs2⟩]
theorem blk3 {X : Cx} (hX : IsCx S X) (h1 : ifs.length ≤ 1) (h2 : ifs1.length ≤ 1) (h3 : ifs2.length ≤ 1) (hv1 : ∀ i ∈ vs1, i ∈ own.map (·.2)) (hv2 : ∀ i ∈ vs2, i ∈ vs1) (hs1 : ∀ env x, foldedSetIterable iter1 env x = pure x) (hs2 : ∀ env x, foldedSetIterable iter2 env x = pure x) :
    BlkCls X scope tg ifs [⟨tg1, iter1, ifs1, 0⟩, ⟨tg2, iter2, ifs2, 0⟩] [⟨tg, iter, ifs, 0⟩, ⟨tg1, iter1, ifs1, 0⟩, ⟨tg2, iter2, ifs2, 0⟩] elt ⟨wI S tg iter, wG (S.blk scope) tg, tTs (S.blk scope) ifs, own.map (·.2)⟩ (cls3 (S.blk scope) tg1 iter1 tg2 iter2 ifs1 ifs2 vs1 vs2) (wE (S.blk scope) elt) := fun s H C cl fp =>
  have hB := hX.blk s H scope cl C fp
  ⟨pg_w hB, pts_w hB h1, ⟨⟨tg1, iter1, ifs1, rfl, pi_w hB, pg_w hB, pts_w hB h2, hs1, hv1⟩, ⟨tg2, iter2, ifs2, rfl, pi_w hB, pg_w hB, pts_w hB h3, hs2, hv2⟩, rfl⟩, pe_w hB⟩
theorem lim_get (hr : lcNM g xs = some zs) : (∀ x ∈ xs, g x = some ((g x).getD [])) ∧ zs = xs.flatMap (fun x => (g x).getD []) ∧ (xs.flatMap fun x => (g x).getD []).length ≤ 16777216 := by
  unfold lcNM at hr
  obtain ⟨r, h1, h2⟩ := Option.bind_eq_some_iff.mp hr
  unfold limO at h2
  split at h2
  case isFalse => cases h2
  rename_i hl
  cases h2
  obtain ⟨h3, h4⟩ := flatM_get h1
  exact ⟨h3, h4, by rw [← h4]; exact hl⟩
theorem f_lc3 (hi : IX S γ tg iter (xs.map encA)) (hb : ∀ x ∈ xs, TO (S.blk scope) encC γ tg ifs (own.map (·.2)) (encA x) (fun D => tCls (wE (S.blk scope) elt) D (cls3 (S.blk scope) tg1 iter1 tg2 iter2 ifs1 ifs2 vs1 vs2)) (g x)) (hr : lcNM g xs = some zs)
    (hN : S.N.Nodup) (ok : blkC S.N S.sc scope own = true) (h1 : ifs.length ≤ 1) (h2 : ifs1.length ≤ 1) (h3 : ifs2.length ≤ 1) (hv1 : ∀ i ∈ vs1, i ∈ own.map (·.2)) (hv2 : ∀ i ∈ vs2, i ∈ vs1) (hs : ∀ (X : Cx) x, foldedSetIterable iter X.env x = pure x) (hs1 : ∀ env x, foldedSetIterable iter1 env x = pure x) (hs2 : ∀ env x, foldedSetIterable iter2 env x = pure x) :
    FJ S γ (.ListComp elt [⟨tg, iter, ifs, 0⟩, ⟨tg1, iter1, ifs1, 0⟩, ⟨tg2, iter2, ifs2, 0⟩] scope pos) (zs.map encC) := fun σ H F at_ Q q => by
  obtain ⟨g1, rfl, g3⟩ := lim_get hr
  exact wE_of (fun X hX => pe_lcN (c := ⟨wI S tg iter, wG (S.blk scope) tg, tTs (S.blk scope) ifs, own.map (·.2)⟩) hX.calm (by rw [hX.N]; exact hN) (pi_w hX) (by rw [hX.N, hX.sc]; exact blkOk_by ok) rfl (blk3 hX h1 h2 h3 hv1 hv2 hs1 hs2) (hs X))
    (lcN_read hi (fun x hx => hb x hx _ (g1 x hx)) g3 at_ q)
theorem s1_setLc3 {p : Post} {px : Pos} {x : Str} {i : Nat} {pl : Pos} (n : NmOk S x i) (hy : S.sc.names.lookup x = some .local)
    (hi : IX S γ tg iter (xs.map encA)) (hb : ∀ x ∈ xs, TO (S.blk scope) encC γ tg ifs (own.map (·.2)) (encA x) (fun D => tCls (wE (S.blk scope) elt) D (cls3 (S.blk scope) tg1 iter1 tg2 iter2 ifs1 ifs2 vs1 vs2)) (g x)) (hr : lcNM g xs = some zs)
    (ok : blkC S.N S.sc scope own = true) (h1 : ifs.length ≤ 1) (h2 : ifs1.length ≤ 1) (h3 : ifs2.length ≤ 1) (hv1 : ∀ i ∈ vs1, i ∈ own.map (·.2)) (hv2 : ∀ i ∈ vs2, i ∈ vs1) (hs : ∀ (X : Cx) x, foldedSetIterable iter X.env x = pure x) (hs1 : ∀ env x, foldedSetIterable iter1 env x = pure x) (hs2 : ∀ env x, foldedSetIterable iter2 env x = pure x) (hli : (px.line == pl.line) = true) (hk : S.sc.kind = .function)
    (hsn : (scope.names.any fun (n, k) => n == x && (k == .local || k == .cell)) = false) (hp : p.nx (γ.set i (.ow (.list (zs.map encC))))) : SJ1 S γ (.Assign [.Name x px] (.ListComp elt [⟨tg, iter, ifs, 0⟩, ⟨tg1, iter1, ifs1, 0⟩, ⟨tg2, iter2, ifs2, 0⟩] scope pl) pos) p := fun σ H F at_ D k1 k2 => by
  obtain ⟨g1, rfl, g3⟩ := lim_get hr
  exact wS1_of (fun X hX => ps_setLcN (i := i) (c := ⟨wI S tg iter, wG (S.blk scope) tg, tTs (S.blk scope) ifs, own.map (·.2)⟩) hX.calm (by rw [hX.N]; exact n.nd) (by rw [hX.N]; exact n.at_) (by rw [hX.sc]; exact hy) (sw_true (by rw [hX.sc]; exact hk) (by rw [hX.sc]; exact hy) hli hsn) (pi_w hX) (by rw [hX.N, hX.sc]; exact blkOk_by ok) rfl (blk3 hX h1 h2 h3 hv1 hv2 hs1 hs2) (hs X))
    (lcN_read hi (fun x hx => hb x hx _ (g1 x hx)) g3 at_ fun v H1 F1 a1 x1 ⟨a, us, e1, h1, h2, h3, h4⟩ => by
      subst e1
      exact k1 _ _ H1 F1 hp (a1.setOw ⟨at_.ext.back h1, h2, us, h3, h4⟩ fun j e hj z => Loose.new at_ h1 j e hj z) x1.f)
theorem j_setLc3 {ρ : Type} {px : Pos} {post : ρ → Post} {o : Option ρ} {rest : List Stmt} {x : Str} {i : Nat} {pl : Pos} (n : NmOk S x i) (hy : S.sc.names.lookup x = some .local)
    (hi : IX S γ tg iter (xs.map encA)) (hb : ∀ x ∈ xs, TO (S.blk scope) encC γ tg ifs (own.map (·.2)) (encA x) (fun D => tCls (wE (S.blk scope) elt) D (cls3 (S.blk scope) tg1 iter1 tg2 iter2 ifs1 ifs2 vs1 vs2)) (g x)) (hr : lcNM g xs = some zs)
    (ok : blkC S.N S.sc scope own = true) (h1 : ifs.length ≤ 1) (h2 : ifs1.length ≤ 1) (h3 : ifs2.length ≤ 1) (hv1 : ∀ i ∈ vs1, i ∈ own.map (·.2)) (hv2 : ∀ i ∈ vs2, i ∈ vs1) (hs : ∀ (X : Cx) x, foldedSetIterable iter X.env x = pure x) (hs1 : ∀ env x, foldedSetIterable iter1 env x = pure x) (hs2 : ∀ env x, foldedSetIterable iter2 env x = pure x) (hli : (px.line == pl.line) = true) (hk : S.sc.kind = .function)
    (hsn : (scope.names.any fun (n, k) => n == x && (k == .local || k == .cell)) = false) (hrest : J S (γ.set i (.ow (.list (zs.map encC)))) rest post o) : J S γ (.Assign [.Name x px] (.ListComp elt [⟨tg, iter, ifs, 0⟩, ⟨tg1, iter1, ifs1, 0⟩, ⟨tg2, iter2, ifs2, 0⟩] scope pl) pos :: rest) post o := fun y hyy =>
  s_cons (N := fun g => g = γ.set i (.ow (.list (zs.map encC)))) (s1_setLc3 n hy hi hb hr ok h1 h2 h3 hv1 hv2 hs hs1 hs2 hli hk hsn rfl) fun g hg => by subst hg; exact hrest y hyy
end
end SM

set_option autoImplicit false
set_option Elab.async false
set_option linter.all false
set_option maxRecDepth 100000
set_option maxHeartbeats 6400000
namespace L2
open PySem PySem.Spec PyProof.Rows
section
variable {P : Program} {w : World} {A : Around} {E : Value → Shared → Prop} {s : Shared}
/-- set(t), t a tuple of tuples of ints -/
theorem set_of_tup {t : Addr} {its : Array Value} (ks : List (Addr × List Int)) {Q : Value → Shared → Prop} (hh : A.handled = none) (ht : s.heap.IsTuple t its) (hit : its.toList = ks.map fun p => Value.ref p.1) (hk : ∀ p ∈ ks, IsT P w s.heap p.2 p.1) (few : ks.length < 64) (hu : A.units + 3 < cLine)
    (fin : ∀ (h' : Heap) (tk : Nat) L es ep tb, SetTR P w h' s.heap.objs.size L es ep tb → Got ks ks.length L → (∀ b o, s.heap.get? b = some o → h'.get? b = some o) → Q (.ref s.heap.objs.size) { s with heap := h', toks := tk }) :
    wpAny (model P w) A (call (.type "set") [.ref t]) Q E s := by
  have sz : its.size = ks.length := by simpa using congrArg List.length hit
  obtain ⟨cM, tM, hmro⟩ := F.called_set.mro
  have a1 := F.called_set.made
  have a2 := F.called_set.sub
  have a3 := F.called_set.notType
  have a4 := F.called_set.canCreate
  have a5 := F.typeCall_set_1 (.ref t)
  refine wpAny_call (codeAny_of_tree ?_)
  show wpAny _ _ (callAny (.type "set") _) _ _ _
  refine wpAny_pure ⟨Code.quiet_builtin _ (by decide +kernel), codeAny_builtin F.entry_type_call ?_⟩
  rw [Around.under_plain (weight_type_call_type "set" [.ref t] []) rfl]
  repeat (any_goals (first | assumption | wp_step))
  refine codeAny_mono (code_set_led1 (.ref t) (E := E) (Q₁ := fun obj s1 => obj = .ref s.heap.objs.size ∧ s1 = { s with heap := s.heap.push { cls := .type "set", dict := none, data := .set #[] 0 (.fresh 0 0 (!w.params.followText "set-order")) } }) ⟨rfl, rfl⟩) fun r s1 hr => ?_
  cases r with
  | error e => exact hr
  | ok fl =>
    cases fl with
    | ret obj =>
      obtain ⟨rfl, rfl⟩ := hr
      have hS : (s.heap.push { cls := .type "set", dict := none, data := .set #[] 0 (.fresh 0 0 (!w.params.followText "set-order")) }).get? s.heap.objs.size = some { cls := .type "set", dict := none, data := .set #[] 0 (.fresh 0 0 (!w.params.followText "set-order")) } := Heap.get?_push_size _ rfl
      have hT : Shared.TypeIs { s with heap := s.heap.push { cls := .type "set", dict := none, data := .set #[] 0 (.fresh 0 0 (!w.params.followText "set-order")) } } (.ref s.heap.objs.size) "set" := ⟨_, hS, rfl⟩
      have b1 := F.called_set.init.lookup
      have b2 := F.called_set.init.bind (.ref s.heap.objs.size)
      repeat (any_goals (first | assumption | wp_step))
      refine codeAny_mono (codeAny_call_builtin (R := wants (fun r s2 => r = .none ∧ ∃ h' tk L es ep tb, s2 = { s with heap := h', toks := tk } ∧ SetTR P w h' s.heap.objs.size L es ep tb ∧ Got ks ks.length L ∧ (∀ b o, s.heap.get? b = some o → h'.get? b = some o)) E) F.called_set.init.plain F.entry_set_init (check_set_init_1 hT ?_)) fun r2 s2 hr2 => ?_
      · obtain ⟨⟨oc, od, odt, osl⟩, ho, hcl, n, hdt⟩ := ht
        simp only at hcl hdt
        subst hcl; subst hdt
        have ho' : (s.heap.push { cls := .type "set", dict := none, data := .set #[] 0 (.fresh 0 0 (!w.params.followText "set-order")) }).get? t = some { cls := .type "tuple", dict := od, data := .seq its n, slots := osl } := Heap.get?_push_of_some _ ho
        have c1 := F.sub_tuple_set
        have c2 := F.sub_tuple_frozenset
        have c3 : (Value.type "tuple" == Value.type "dict") = false := by decide
        have hl1 : (s.heap.push { cls := .type "set", dict := none, data := .set #[] 0 (.fresh 0 0 (!w.params.followText "set-order")) }).IsTuple t its := ⟨_, ho', rfl, n, rfl⟩
        unfold Builtin.«set.__init__» noKeywords Builtin.Frozenset.updateFrom
        generalize hPI : pyIter = PI
        wp_walk
        subst hPI
        refine wpAny_pyIter_tuple hl1 ?_
        refine wpAny_bind (wpAny_runValue ?_)
        have tlt : t < s.heap.objs.size := Heap.lt_size ho
        have hh3 : A.in1.in1.in1.handled = none := by simp [hh]
        have tne : t ≠ (s.heap.push { cls := .type "set", dict := none, data := .set #[] 0 (.fresh 0 0 (!w.params.followText "set-order")) }).objs.size := by
          rw [Heap.size_push]; exact Nat.ne_of_lt (Nat.lt_succ_of_lt tlt)
        have sf : s.heap.objs.size ∉ [(s.heap.push { cls := .type "set", dict := none, data := .set #[] 0 (.fresh 0 0 (!w.params.followText "set-order")) }).objs.size, t] := by
          rw [Heap.size_push]; simp only [List.mem_cons, List.mem_singleton, List.not_mem_nil, or_false, not_or]
          exact ⟨Nat.ne_of_lt (Nat.lt_succ_self _), Nat.ne_of_gt tlt⟩
        have hval : ∀ (i : Nat) (v : Value), its[i]? = some v → ∃ p, ks[i]? = some p ∧ v = .ref p.1 := fun i v hv => by
          rw [← Array.getElem?_toList, hit, List.getElem?_map] at hv
          obtain ⟨p, q1, q2⟩ := Option.map_eq_some_iff.mp hv
          exact ⟨p, q1, q2.symm⟩
        have new : ∀ b, s.heap.objs.size ≤ b → s.heap.get? b = none := fun b hb => by
          cases q : s.heap.get? b with
          | none => rfl
          | some o => exact absurd (Nat.lt_of_lt_of_le (Heap.lt_size q) hb) (Nat.lt_irrefl _)
        refine set_update_tups ((Walks.tuple hh3 _ t tne its).toS) s.heap.objs.size sf ks sz few hval s.heap hk (new _ (Nat.le_refl _)) (fun b hb => new b (by rw [List.mem_singleton.mp hb, Heap.size_push]; exact Nat.le_succ _)) hu (its.size - 0) 0 _ (by omega) (Nat.zero_le _)
          ⟨⟨_, Heap.get?_push_size _ rfl, rfl, rfl⟩, (hl1.push _)⟩ (fun b o e => Heap.get?_push_of_some _ (Heap.get?_push_of_some _ e)) ?g0 ?g1
        case g0 =>
          refine ⟨[], #[], 0, _, setTR_fresh ?_, Got.zero ks⟩
          exact Heap.get?_push_of_some _ hS
        case g1 =>
          intro s' L es ep tb hm hS' g' hkp
          obtain ⟨h', g2, d', tk', os'⟩ := s'
          have eg : g2 = s.gens := hm.gens
          have ed : d' = s.drawn := hm.drawn
          have eo : os' = s.os := hm.os
          subst eg; subst ed; subst eo
          rw [sz] at g'
          show wpAny _ _ _ _ _ _
          refine wpAny_pure ?_
          show wpAny _ _ (ret Value.none) _ _ _
          exact wpAny_pure ⟨rfl, h', tk', L, es, ep, tb, rfl, hS', g', hkp⟩
      · cases r2 with
        | error e => exact hr2
        | ok fl2 =>
          cases fl2 with
          | ret r =>
            obtain ⟨rfl, h', tk, L, es, ep, tb, rfl, hS', g', hk'⟩ := hr2
            repeat (any_goals (first | assumption | wp_step))
            exact fin _ _ _ _ _ _ hS' g' hk'
          | _ => exact hr2.elim
    | _ => exact hr.elim
end
end L2

set_option autoImplicit false
set_option Elab.async false
set_option linter.all false
set_option maxRecDepth 100000
set_option maxHeartbeats 4000000
namespace SM
open PySem PySem.Spec PyProof.Rows L2
/-! ### sets of tuples of ints out of tuples -/
def rSetOfU (K : PySem.W.Frag) (P : Program) (w : World) : List V → Hp → VK → Prop := fun xs H Q => ∃ (l : Addr) (ks : List (Addr × List Int)), xs = [V.ref l] ∧ SqT K H l (ks.map fun p => V.ref p.1) ∧ (∀ p ∈ ks, SqT K H p.1 (p.2.map V.int)) ∧ ks.length < 64 ∧
  ∀ a L, H a = none → (∀ p ∈ L, p ∈ ks) → (∀ p ∈ ks, p.2 ∈ L.map (·.2)) → Q (.ref a) (upd H a (SetTO P w a L))
theorem cr_setOfU {X : Cx} (hc : X.calm = true) (hu : X.A.units + 64 < cLine) : CallR X (.type "set") (rSetOfU X.K X.prog X.w) := by
  intro pins s σ H xs us Q I r h
  obtain ⟨l, ks, rfl, hl, hk, hf, q⟩ := h
  rw [Vals.ref1 r]
  obtain ⟨its, rv, pl, hz⟩ := I.tuple hl
  have hn : H s.heap.objs.size = none := I.hok.fresh (Nat.le_refl _)
  refine set_of_tup (P := X.prog) (w := X.w) ks (I.ok.hd hc) pl (by simpa using refs_of_vals rv) (fun p hp => I.isT (hk p hp)) hf (by omega) fun h' tk L es ep t R g k => ?_
  refine ⟨.ref s.heap.objs.size, upd H s.heap.objs.size (SetTO X.prog X.w s.heap.objs.size L), I.laid (t' := tk) k (Nat.le_refl _) (setTO_new R.t0), rfl, q _ L hn (fun p hp => ?_) fun p hp => ?_⟩
  · exact List.mem_of_mem_take (g.sub p hp)
  · exact g.all p (by rw [List.take_length]; exact hp)
section
variable {S : Stat} {γ : Gm} {a : Expr} {pos p p2 q2 : Pos} {α : Type} [DecidableEq α] {enc : α → PyData} {f : α → List Int} {xs : List α}
theorem set_ewU (hT : TupE enc f) (hg : IsGl S "set") (hm : S.mg "set" = none) (ha : QJ S γ a .t (xs.map enc)) (hs : PlainE a) (hl : xs.length < 64) :
    EW S γ (.Call (.Name "set" p2) [a] [] q2) (fun v H0 H' F' => ∃ b L, v = .ref b ∧ H0 b = none ∧ H' b = some (SetTO S.P S.w b L) ∧ (∀ p ∈ L, SqT S.K F' p.1 (p.2.map V.int)) ∧ (∀ p ∈ L, p.2 ∈ xs.map f) ∧ ∀ x ∈ xs, f x ∈ L.map (·.2)) :=
  w_t1 (r := rSetOfU S.K S.P S.w) (fun X hX => by rw [← hX.K, ← hX.w, ← hX.prog]; exact cr_setOfU hX.calm (by have := hX.room.un; omega)) hg hm boot_set' hs ha (fun v H0 F0 H F Q at_ x ⟨q, vs, e1, h1, h2⟩ k2 => by
    subst e1
    obtain ⟨ks, e1, e2, e3⟩ := keys_of hT h2
    subst e1
    have hlen : ks.length = xs.length := by
      have := congrArg List.length e2
      simpa using this
    refine ⟨q, ks, rfl, h1, fun p hp => at_.hf.le.sqT (e3 p hp), by omega, fun b L hn hLk hkL => ?_⟩
    refine k2 _ _ F (at_.hf.newH hn) (ex_newH hn) ⟨b, L, rfl, x.h.back hn, upd_same, fun p hp => e3 p (hLk p hp), fun p hp => ?_, fun y hy => ?_⟩
    · rw [← e2]
      exact List.mem_map.mpr ⟨p, hLk p hp, rfl⟩
    · have : f y ∈ ks.map (·.2) := by rw [e2]; exact List.mem_map.mpr ⟨y, hy, rfl⟩
      obtain ⟨p, hp, e⟩ := List.mem_map.mp this
      rw [← e]
      exact hkL p hp) (by decide) (by decide)
theorem e_lenSetU {n : Int} (hT : TupE enc f) (hg : IsGl S "len") (hm : S.mg "len" = none) (hg2 : IsGl S "set") (hm2 : S.mg "set" = none) (ha : QJ S γ a .t (xs.map enc)) (hs : PlainE a) (hr : lenSetTO xs = some n) (hs2 : PlainE (.Call (.Name "set" p2) [a] [] q2)) : EJ S γ (.Call (.Name "len" p) [.Call (.Name "set" p2) [a] [] q2] [] pos) (.int n) := by
  unfold lenSetTO at hr
  split at hr
  case isFalse => cases hr
  rename_i hl
  cases hr
  exact w_b1 (r := fun vs H Q => ∃ (a : Addr) (L : List (Addr × List Int)), vs = [V.ref a] ∧ H a = some (SetTO S.P S.w a L) ∧ (∀ p ∈ L, SqT S.K H p.1 (p.2.map V.int)) ∧ ((L.map (·.2)).Nodup → Q (.int L.length) H)) (fun X hX => by rw [← hX.w, ← hX.prog, ← hX.K]; exact cr_lenSetT) hg hm PySem.boot_len hs2 (set_ewU hT hg2 hm2 ha hs hl) (fun v H0 F0 H F Q at_ x ⟨b, L, e1, _, h2, h3, h4, h5⟩ k2 => by
    subst e1
    refine ⟨b, L, rfl, h2, fun p hp => at_.hf.le.sqT (h3 p hp), fun nd => ?_⟩
    have pm := dd_keys (xs := xs) hT nd (fun k hk => by
      obtain ⟨p, hp, e⟩ := List.mem_map.mp hk
      rw [← e]; exact h4 p hp) h5
    have hlen : L.length = (dd xs).length := by
      have := pm.length_eq
      simpa using this
    rw [hlen]
    exact k2 _ H F at_.hf (Ex2.refl H F) (.int _)) (by decide) (by decide)
end
section
variable {S : Stat} {γ : Gm} {a : Expr} {pos p p2 q2 : Pos} {α : Type} [DecidableEq α] [iα : LtE α] {enc : α → PyData} {f : α → List Int} {xs ys : List α} {m : Nat}
theorem f_sortSetU (hT : TupE enc f) (hO : OrdE enc m) (hn : m ≤ 60) (hg : IsGl S "sorted") (hm : S.mg "sorted" = none) (hg2 : IsGl S "set") (hm2 : S.mg "set" = none) (ha : QJ S γ a .t (xs.map enc)) (hs : PlainE a) (hr : sortSetTO xs = some ys) (hs2 : PlainE (.Call (.Name "set" p2) [a] [] q2)) : FJ S γ (.Call (.Name "sorted" p) [.Call (.Name "set" p2) [a] [] q2] [] pos) (ys.map enc) := by
  unfold sortSetTO at hr
  split at hr
  case isFalse => cases hr
  rename_i hl
  cases hr
  exact w_b1 (r := rSortedTD S.K S.P S.w) (fun X hX => by rw [← hX.w, ← hX.prog, ← hX.K]; exact cr_sortedSetT hX.calm (by have := hX.room.un; omega)) hg hm boot_sorted hs2 (set_ewU hT hg2 hm2 ha hs hl) (fun v H0 F0 H F Q at_ x ⟨b, L, e1, _, h2, h3, h4, h5⟩ k2 => by
    subst e1
    refine ⟨F, α, iα, enc, f, m, xs, b, L, at_.hf.le, rfl, h2, hT, hO, hn, h3, h4, fun zs nd pz us' l hd hlz => ?_⟩
    have pm := dd_keys (xs := xs) hT nd (fun k hk => by
      obtain ⟨p, hp, e⟩ := List.mem_map.mp hk
      rw [← e]; exact h4 p hp) h5
    have pz2 : zs.Perm (dd xs) := perm_of_keys hT (pz.trans pm)
    have e : sortB zs = sortB (dd xs) := sortB_of (sortB_srt _) ((sortB_perm _).trans pz2.symm)
    rw [e] at hd
    exact k2 _ _ _ (at_.hf.newH hlz) (ex_newH hlz) ⟨l, us', rfl, x.h.back hlz, at_.hf.fnone hlz, upd_same, hd⟩) (by decide) (by decide)
end
end SM

set_option autoImplicit false
set_option Elab.async false
set_option linter.all false
set_option maxRecDepth 100000
set_option maxHeartbeats 4000000
namespace SM
open PySem PySem.Spec PyProof.Rows L2
/-! ### a, b = e1, e2 -/
def isStar : Expr → Bool
  | .Starred .. => true
  | _ => false
theorem sw_par {env : Env} {x y : Str} {px py pt pt2 : Pos} {a b : Expr} {kt k2} (hk : env.scope.kind = .function) (hx : env.scope.names.lookup x = some .local) (hy : env.scope.names.lookup y = some .local) (hl : (py.line == px.line) = true) (hne : x ≠ y)
    (hs : (isStar a || isStar b) = false) (hf : (foldedForSure 8 a && foldedForSure 8 b) = false) (hc : (constantsAlone 8 a && constantsAlone 8 b) = false) :
    swappedStores [.Tuple [.Name x px, .Name y py] kt pt] (.Tuple [a, b] k2 pt2) env = pure (some [x, y]) := by
  have hbk : env.blockKind = .function := by
    unfold Env.blockKind
    rw [hk]; rfl
  have h1 : ([a, b].any fun | .Starred .. => true | _ => false) = false := by
    have : ([a, b].any isStar) = false := by simpa using hs
    exact this
  have h2 : [a, b].all (foldedForSure 8) = false := by
    rw [List.all_cons, List.all_cons, List.all_nil, Bool.and_true]; exact hf
  have h3 : [a, b].all (constantsAlone 8) = false := by
    rw [List.all_cons, List.all_cons, List.all_nil, Bool.and_true]; exact hc
  have hn : ([Expr.Name x px, Expr.Name y py].filterMap fun
    | .Name id pos => if env.kindOf id == some .local && pos.line == px.line then some id else none
    | _ => none) = [x, y] := by
    rw [List.filterMap_cons, List.filterMap_cons, List.filterMap_nil]
    simp [Env.kindOf, hx, hy]
    have hl : py.line = px.line := by simpa using hl
    rw [if_pos hl]
  have he : ([x, y].eraseDups.length != [x, y].length) = false := by
    have : [x, y].eraseDups = [x, y] := by
      have hyx : (y == x) = false := by simpa using Ne.symm hne
      simp [List.eraseDups_cons, hyx]
    rw [this]; rfl
  unfold swappedStores
  show (do
    if !(2 == 2 || 2 == 3) || 2 != 2 || env.blockKind != .function then return none
    if [a, b].any fun | .Starred .. => true | _ => false then return none
    let names := [Expr.Name x px, Expr.Name y py].filterMap fun
      | .Name id pos => if env.kindOf id == some .local && pos.line == px.line then some id else none
      | _ => none
    if names.length != 2 || names.eraseDups.length != names.length then return none
    if [a, b].all (foldedForSure 8) then return none
    if [a, b].all (constantsAlone 8) then unsupported "assign.tuple-of-constant-expressions:order-of-the-stores"
    return some names : Sem (Option (List Str))) = _
  rw [hn, h1, h2, h3, hbk]
  simp only [he]
  rfl
section
variable {S : Stat} {γ : Gm} {a b : Expr} {d1 d2 : PyData} {rest : List Stmt} {pos : Pos} {p : Post}
theorem s1_par {x y : Str} {i j : Nat} {px py pt pt2 : Pos} {kt k2} (n : NmOk S x i) (n2 : NmOk S y j) (hij : i ≠ j) (hk : S.sc.kind = .function) (hx : S.sc.names.lookup x = some .local) (hy : S.sc.names.lookup y = some .local) (hl : (py.line == px.line) = true) (hne : x ≠ y)
    (hs : (isStar a || isStar b) = false) (hf : (foldedForSure 8 a && foldedForSure 8 b) = false) (hc : (constantsAlone 8 a && constantsAlone 8 b) = false) (ha : AJ S γ [a, b] [d1, d2]) (hp : p.nx ((γ.set i (.sh d1)).set j (.sh d2)))
    (hso : ∀ X : Cx, swapsWithSole [.Tuple [.Name x px, .Name y py] kt pt] (.Tuple [a, b] k2 pt2) pos.line X.env = pure false) : SJ1 S γ (.Assign [.Tuple [.Name x px, .Name y py] kt pt] (.Tuple [a, b] k2 pt2) pos) p := fun σ H F at_ D k1 k2 =>
  wS1_of (fun X hX => ps_par (i := i) (j := j) hX.calm (by rw [hX.N]; exact n.nd) (by rw [hX.N]; exact n.at_) (by rw [hX.N]; exact n2.at_) hij (by rw [hX.sc]; exact hx) (by rw [hX.sc]; exact hy) (pa_w hX) (sw_par (by rw [hX.sc]; exact hk) (by rw [hX.sc]; exact hx) (by rw [hX.sc]; exact hy) hl hne hs hf hc) (hso X))
    (ha σ H F at_ _ fun vs H1 F1 a1 x1 dv => by
      cases dv with
      | cons h1 t =>
        cases t with
        | cons h2 t =>
          cases t
          exact ⟨_, _, rfl, k1 _ _ H1 F1 hp ((a1.setSh h1).setSh h2) x1.f⟩)
theorem j_par {α : Type} {post : α → Post} {o : Option α} {x y : Str} {i j : Nat} {px py pt pt2 : Pos} {kt k2} (n : NmOk S x i) (n2 : NmOk S y j) (hij : i ≠ j) (hk : S.sc.kind = .function) (hx : S.sc.names.lookup x = some .local) (hy : S.sc.names.lookup y = some .local) (hl : (py.line == px.line) = true) (hne : x ≠ y)
    (hs : (isStar a || isStar b) = false) (hf : (foldedForSure 8 a && foldedForSure 8 b) = false) (hc : (constantsAlone 8 a && constantsAlone 8 b) = false) (ha : AJ S γ [a, b] [d1, d2])
    (hso : ∀ X : Cx, swapsWithSole [.Tuple [.Name x px, .Name y py] kt pt] (.Tuple [a, b] k2 pt2) pos.line X.env = pure false) (hr : J S ((γ.set i (.sh d1)).set j (.sh d2)) rest post o) : J S γ (.Assign [.Tuple [.Name x px, .Name y py] kt pt] (.Tuple [a, b] k2 pt2) pos :: rest) post o := fun y hy' =>
  s_cons (N := fun g => g = (γ.set i (.sh d1)).set j (.sh d2)) (s1_par n n2 hij hk hx hy hl hne hs hf hc ha rfl hso) fun g hg => by subst hg; exact hr y hy'
end
end SM
namespace SM
open PySem PySem.Spec PyProof.Rows L2
theorem fm2 {α β : Type} (g : α → Option β) (u v : α) (h : g u = none ∨ g v = none) : ([u, v].filterMap g).length ≠ 2 := by
  rw [List.filterMap_cons, List.filterMap_cons, List.filterMap_nil]
  rcases h with h | h
  · rw [h]; cases g v <;> simp
  · rw [h]; cases g u <;> simp
theorem sw_none {env : Env} {x y : Str} {px py pt pt2 : Pos} {a b : Expr} {kt k2} (h : (env.scope.names.lookup x == some NameKind.local && env.scope.names.lookup y == some NameKind.local) = false) :
    swappedStores [.Tuple [.Name x px, .Name y py] kt pt] (.Tuple [a, b] k2 pt2) env = pure none := by
  have hn : ([Expr.Name x px, Expr.Name y py].filterMap fun
    | .Name id pos => if env.kindOf id == some .local && pos.line == px.line then some id else none
    | _ => none).length ≠ 2 := by
    refine fm2 _ _ _ ?_
    cases hx : (env.scope.names.lookup x == some NameKind.local) with
    | false =>
      refine .inl ?_
      show (if ((env.scope.names.lookup x == some NameKind.local) && px.line == px.line) = true then some x else none) = none
      rw [if_neg (by rw [hx]; simp)]
    | true =>
      rw [hx, Bool.true_and] at h
      refine .inr ?_
      show (if ((env.scope.names.lookup y == some NameKind.local) && py.line == px.line) = true then some y else none) = none
      rw [if_neg (by rw [h]; simp)]
  unfold swappedStores
  show (do
    if !(2 == 2 || 2 == 3) || 2 != 2 || env.blockKind != .function then return none
    if [a, b].any fun | .Starred .. => true | _ => false then return none
    let names := [Expr.Name x px, Expr.Name y py].filterMap fun
      | .Name id pos => if env.kindOf id == some .local && pos.line == px.line then some id else none
      | _ => none
    if names.length != 2 || names.eraseDups.length != names.length then return none
    if [a, b].all (foldedForSure 8) then return none
    if [a, b].all (constantsAlone 8) then unsupported "assign.tuple-of-constant-expressions:order-of-the-stores"
    return some names : Sem (Option (List Str))) = _
  generalize ([Expr.Name x px, Expr.Name y py].filterMap fun
      | .Name id pos => if env.kindOf id == some .local && pos.line == px.line then some id else none
      | _ => none) = names at hn ⊢
  have hb : (names.length != 2) = true := by simpa using hn
  simp only [hb, Bool.true_or, if_true]
  split
  · rfl
  split
  · rfl
  · rfl
section
variable {S : Stat} {γ γ' : Gm} {e tg : Expr} {d : PyData} {rest : List Stmt} {pos : Pos} {p : Post}
theorem s1_asgS {is : List Nat} (h : EJ S γ e d) (g : GJ S γ tg d γ' is) (hs : ∀ X : Cx, swapsWithSole [tg] e pos.line X.env = pure false) (hw : ∀ X : Cx, X.env.scope = S.sc → swappedStores [tg] e X.env = pure none) (h1 : ∀ X : Cx, (assignEach [tg] X.env).map (·.2) = [assign tg X.env]) (hp : p.nx γ') : SJ1 S γ (.Assign [tg] e pos) p := fun σ H F at_ D k1 k2 =>
  wS1_of (fun X hX => ps_asg (pe_w hX) (pg_w hX) (hs X) (hw X hX.sc) (h1 X)) (h σ H F at_ _ fun v H1 F1 a1 x1 dv => g σ H1 F1 v a1 dv _ fun σ' a2 _ _ => k1 _ σ' H1 F1 hp a2 x1.f)
theorem j_asgS {α : Type} {post : α → Post} {o : Option α} {is : List Nat} (h : EJ S γ e d) (g : GJ S γ tg d γ' is) (hs : ∀ X : Cx, swapsWithSole [tg] e pos.line X.env = pure false) (hw : ∀ X : Cx, X.env.scope = S.sc → swappedStores [tg] e X.env = pure none) (h1 : ∀ X : Cx, (assignEach [tg] X.env).map (·.2) = [assign tg X.env]) (hr : J S γ' rest post o) : J S γ (.Assign [tg] e pos :: rest) post o := fun y hy =>
  s_cons (N := fun g => g = γ') (s1_asgS h g hs hw h1 rfl) fun g hg => by subst hg; exact hr y hy
end
end SM

set_option autoImplicit false
set_option Elab.async false
set_option linter.all false
set_option maxRecDepth 100000
set_option maxHeartbeats 4000000
namespace SM
open PySem PySem.Spec PyProof.Rows L2
/-! ### dicts with ints as keys -/
def kvD {β : Type} (enc : β → PyData) (m : List (Int × β)) : List (PyData × PyData) := m.map fun p => (.int p.1, enc p.2)
def dget {β : Type} (m : List (Int × β)) (k : Int) : Option β := (m.find? fun p => decide (p.1 = k)).map (·.2)
def dput {β : Type} (m : List (Int × β)) (k : Int) (v : β) : List (Int × β) := if (m.any fun p => decide (p.1 = k)) = true then m.map (fun p => if p.1 = k then (p.1, v) else p) else m ++ [(k, v)]
theorem NotCode.dk {H : Hp} {a : Addr} {ks : List (Key × V)} (h : H a = some (.dK ks)) : NotCode H a := by
  constructor
  · intro q z
    rw [h] at z
    have z := Option.some.inj z
    unfold LamX.CodeO at z
    cases z
  · intro q z
    rw [h] at z
    have z := Option.some.inj z
    unfold CodeT at z
    cases z
theorem NotCode.frz {H : Hp} {a : Addr} {o : Obj} {u : HO} (h : H a = some (.frz o u)) : NotCode H a := by
  constructor
  · intro q z
    rw [h] at z
    have z := Option.some.inj z
    unfold LamX.CodeO at z
    cases z
  · intro q z
    rw [h] at z
    have z := Option.some.inj z
    unfold CodeT at z
    cases z
section
variable {K : PySem.W.Frag} {F : Hp} {β : Type} {enc : β → PyData}
theorem DK.any {k : Int} : ∀ {ks : List (Key × V)} {m : List (Int × β)}, DK K F ks (kvD enc m) → (ks.any fun kv => decide (kv.1 = .inl k)) = m.any fun p => decide (p.1 = k)
  | [], [], _ => rfl
  | [], _ :: _, h => by cases h
  | _ :: _, [], h => by cases h
  | x :: ks, p :: m, h => by
    cases h with
    | cons h t =>
      rw [List.any_cons, List.any_cons, DK.any (m := m) t]
      congr 1
      rw [decide_eq_decide]
      constructor
      · intro e; injection e
      · intro e; rw [e]
theorem DK.get {k : Int} {b : β} : ∀ {ks : List (Key × V)} {m : List (Int × β)}, DK K F ks (kvD enc m) → dget m k = some b → ∃ v, valV ks (.inl k) = some v ∧ Dp K F v (enc b)
  | [], [], _, e => by cases e
  | [], _ :: _, h, _ => by cases h
  | _ :: _, [], h, _ => by cases h
  | x :: ks, (i, c) :: m, h, e => by
    cases h with
    | @cons _ v _ _ _ h t =>
      by_cases hk : i = k
      · subst hk
        have : dget ((i, c) :: m) i = some c := by simp [dget]
        rw [this] at e
        cases e
        exact ⟨v, valV_pos rfl, h⟩
      · have : dget ((i, c) :: m) k = dget m k := by simp [dget, hk]
        rw [this] at e
        obtain ⟨w, h1, h2⟩ := DK.get (m := m) t e
        refine ⟨w, ?_, h2⟩
        rw [valV_neg (fun z => hk (by injection z))]
        exact h1
theorem DK.none {k : Int} : ∀ {ks : List (Key × V)} {m : List (Int × β)}, DK K F ks (kvD enc m) → dget m k = none → valV ks (.inl k) = none
  | [], [], _, e => rfl
  | [], _ :: _, h, _ => by cases h
  | _ :: _, [], h, _ => by cases h
  | x :: ks, (i, c) :: m, h, e => by
    cases h with
    | @cons _ v _ _ _ h t =>
      by_cases hk : i = k
      · subst hk
        have : dget ((i, c) :: m) i = some c := by simp [dget]
        rw [this] at e
        cases e
      · have : dget ((i, c) :: m) k = dget m k := by simp [dget, hk]
        rw [this] at e
        rw [valV_neg (fun z => hk (by injection z))]
        exact DK.none (m := m) t e
theorem DK.len : ∀ {ks : List (Key × V)} {kvs : List (PyData × PyData)}, DK K F ks kvs → ks.length = kvs.length
  | _, _, .nil => rfl
  | _, _, .cons _ t => congrArg (· + 1) t.len
theorem DK.snoc {k : Int} {v : V} {d : PyData} (hd : Dp K F v d) : ∀ {ks : List (Key × V)} {kvs : List (PyData × PyData)}, DK K F ks kvs → DK K F (ks ++ [(.inl k, v)]) (kvs ++ [(.int k, d)])
  | _, _, .nil => .cons hd .nil
  | _, _, .cons h t => .cons h (t.snoc hd)
theorem DK.put {k : Int} {v : V} {b : β} (hd : Dp K F v (enc b)) {ks : List (Key × V)} {m : List (Int × β)} (h : DK K F ks (kvD enc m)) : DK K F (putK ks (.inl k) v) (kvD enc (dput m k b)) := by
  unfold putK dput
  rw [DK.any h]
  split
  · rename_i hx
    clear hx
    induction m generalizing ks with
    | nil => cases h; exact .nil
    | cons p m ih =>
      obtain ⟨i, c⟩ := p
      cases h with
      | @cons _ w _ ks' _ h t =>
        have := ih t
        rw [List.map_cons, List.map_cons]
        by_cases hk : i = k
        · subst hk
          rw [if_pos rfl, if_pos rfl]
          exact .cons hd this
        · rw [if_neg (fun z => hk (by injection z)), if_neg hk]
          exact .cons h this
  · have := h.snoc (k := k) hd
    unfold kvD at this ⊢
    rw [List.map_append]
    exact this
end
section
variable {S : Stat} {γ : Gm} {σ : L2.St} {H F : Hp}
/-- an owned thing is changed -/
theorem At.owSetX {j : Nat} {a : Addr} {d0 d : PyData} {o : HO} (h : At S γ σ H F) (hg : γ[j]? = some (.ow d0)) (h1 : σ[j]? = some (some (.ref a))) (ht : ∀ ps, H a ≠ some (.tbl ps)) (hc : NotCode H a) (hn : OwnC S.K (upd H a o) F a d) : At S (γ.set j (.ow d)) σ (upd H a o) F := by
  obtain ⟨b, hb, ho⟩ := h.ow j d0 hg
  rw [h1] at hb
  cases hb
  have h' := h.setUn (i := j) (x := some (.ref a))
  have lo : Loose (γ.set j .un) σ a := fun k e hk z => by
    rcases set_cases hk with ⟨_, e1, _⟩ | ⟨hne, hk⟩
    · cases e1
    · exact hne (h.apart k j e _ a hk hg z h1)
  have es : σ.set j (some (.ref a)) = σ := by
    refine List.ext_getElem? fun k => ?_
    rw [List.getElem?_set]
    split
    · rename_i z; subst z
      split
      · rw [h1]
      · rename_i z; rw [List.getElem?_eq_none (by omega)]
    · rfl
  rw [es] at h'
  have h2 := h'.mut (o := o) lo ho.fnone ho.bnone ht hc
  have h3 := h2.setOw (i := j) (a := a) (d := d) ⟨ho.bnone, ho.fnone, hn⟩ lo
  rw [es, List.set_set] at h3
  exact h3
end
/-- a dict to be read -/
def DQ {β : Type} (S : Stat) (γ : Gm) (e : Expr) (enc : β → PyData) (m : List (Int × β)) : Prop := EW S γ e fun v _ H' F' => ∃ a ks, v = .ref a ∧ Rd H' a (.dK ks) ∧ DK S.K F' ks (kvD enc m)
/-- a new dict -/
def FD {β : Type} (S : Stat) (γ : Gm) (e : Expr) (enc : β → PyData) (m : List (Int × β)) : Prop := EW S γ e fun v H H' F' => ∃ a ks, v = .ref a ∧ H a = none ∧ F' a = none ∧ H' a = some (.dK ks) ∧ DK S.K F' ks (kvD enc m)
section
variable {S : Stat} {γ : Gm} {e a b : Expr} {β : Type} {enc : β → PyData} {m m2 : List (Int × β)} {k : Int} {x : β} {pos p : Pos}
theorem FD.of (h : FD S γ e enc m) (w : m = m2) : FD S γ e enc m2 := w ▸ h
theorem FD.q (h : FD S γ e enc m) : DQ S γ e enc m := EW.imp h fun v H H' F' at_ ⟨a, ks, e1, h1, h2, h3, h4⟩ => ⟨a, ks, e1, .inl h3, h4⟩
theorem d_own {i : Nat} {x : Str} (hN : S.N[i]? = some x) (hv : Vis S.sc x) (hg : γ[i]? = some (.ow (.dict (kvD enc m)))) (hd : (x == ("__debug__" : Str)) = false := by decide) (hcd : (x == ("__classdict__" : Str)) = false := by decide) : DQ S γ (.Name x pos) enc m := fun σ H F at_ Q q => by
  obtain ⟨a, h1, _, _, ks, h2, h3⟩ := at_.ow i _ hg
  exact wE_of (fun X hX => pe_var (by rw [hX.N]; exact hN) (by rw [hX.sc]; exact hv) hd hcd) ⟨.ref a, h1, q _ H F at_ (Ex2.refl H F) ⟨a, ks, rfl, .inl h2, h3⟩⟩
theorem d_lk {i : Nat} {x : Str} {n : Int} (hN : S.N[i]? = some x) (hv : Vis S.sc x) (hg : γ[i]? = some (.lk n (kvD enc m))) (hd : (x == ("__debug__" : Str)) = false := by decide) (hcd : (x == ("__classdict__" : Str)) = false := by decide) : DQ S γ (.Name x pos) enc m := fun σ H F at_ Q q => by
  obtain ⟨a, o, ks, _, h1, h2, h3⟩ := at_.lk i _ _ hg
  exact wE_of (fun X hX => pe_var (by rw [hX.N]; exact hN) (by rw [hX.sc]; exact hv) hd hcd) ⟨.ref a, h1, q _ H F at_ (Ex2.refl H F) ⟨a, ks, rfl, .inr ⟨o, at_.hf.sub a _ h2⟩, h3⟩⟩
theorem rd_ext {t : Tbs} {H H' : Hp} {a : Addr} {ks : List (Key × V)} (e : Ext t H H') (h : Rd H a (.dK ks)) : Rd H' a (.dK ks) := by
  rcases h with h | ⟨o, h⟩
  · exact .inl (e.keep _ _ h fun _ z => by cases z)
  · exact .inr ⟨o, e.keep _ _ h fun _ z => by cases z⟩
theorem dget_of {H F : Hp} {ad : Addr} {ks : List (Key × V)} (hr : Rd H ad (.dK ks)) : DGet H ad (.int k) (valV ks (.inl k)) := .inl ⟨ks, .inl k, hr, rfl, rfl⟩
/-- d[k] -/
theorem e_dget (ha : DQ S γ a enc m) (hb : EJ S γ b (.int k)) (hs : NoSl b) (hr : dget m k = some x) : EJ S γ (.Subscript a b pos) (enc x) := fun σ H F at_ Q q =>
  wE_of (fun X hX => pe_dget (by have := hX.room.un; omega) (pe_w hX) (pe_w hX) hs) (ha σ H F at_ _ fun v H1 F1 a1 x1 ⟨ad, ks, e1, h1, h2⟩ => hb σ H1 F1 a1 _ fun u H2 F2 a2 x2 d2 => by
    subst e1
    cases d2
    obtain ⟨w, h3, h4⟩ := (h2.zmono x2.f).get hr
    refine ⟨ad, w, rfl, ?_, q w H2 F2 a2 (x1.trans x2) h4⟩
    rw [← h3]
    exact dget_of (F := F2) (rd_ext x2.h h1))
theorem dget_some {m : List (Int × β)} {k : Int} : (dget m k).isSome = m.any fun p => decide (p.1 = k) := by
  unfold dget
  rw [Option.isSome_map, Bool.eq_iff_iff, List.any_eq_true, List.find?_isSome]
end
/-- k in d -/
def rDIn : R2 := fun x y H Q => ∃ a o, y = .ref a ∧ DGet H a x o ∧ Q (.bl o.isSome) H
def rDNotIn : R2 := fun x y H Q => ∃ a o, y = .ref a ∧ DGet H a x o ∧ Q (.bl (!o.isSome)) H
theorem op_din {X : Cx} (hu : X.A.units + 1 < cLine) : OpR X (compareOp .In) rDIn := by
  intro pins s σ H x y v u Q I rx ry h
  obtain ⟨a, o, rfl, g, q⟩ := h
  obtain rfl : u = Value.ref a := ry
  exact d_in hu I g rx fun s3 I3 => ⟨.bl o.isSome, H, I3, rfl, q⟩
theorem op_dnotin {X : Cx} (hu : X.A.units + 1 < cLine) : OpR X (compareOp .NotIn) rDNotIn := by
  intro pins s σ H x y v u Q I rx ry h
  obtain ⟨a, o, rfl, g, q⟩ := h
  obtain rfl : u = Value.ref a := ry
  exact d_notIn hu I g rx fun s3 I3 => ⟨.bl (!o.isSome), H, I3, rfl, q⟩
/-- len(d) -/
theorem cr_lenD {X : Cx} : CallR X (.builtin "len") (fun vs H Q => ∃ (a : Addr) (ks : List (Key × V)), vs = [V.ref a] ∧ Rd H a (.dK ks) ∧ Q (.int ks.length) H) := by
  intro pins s σ H vs us Q I r h
  obtain ⟨a, ks, rfl, ha, q⟩ := h
  rw [Vals.ref1 r]
  exact d_len I ha fun t s' I' => ⟨.int ks.length, H, I', ⟨t, rfl⟩, q⟩
def dhas {β : Type} (m : List (Int × β)) (k : Int) : Bool := m.any fun p => decide (p.1 = k)
section
variable {S : Stat} {γ : Gm} {e a b : Expr} {β : Type} {enc : β → PyData} {m m2 : List (Int × β)} {k : Int} {x : β} {pos p : Pos}
theorem DK.has {K : PySem.W.Frag} {F : Hp} {ks : List (Key × V)} (h : DK K F ks (kvD enc m)) : (valV ks (.inl k)).isSome = dhas m k := by
  rw [← valV_any, DK.any h]; rfl
theorem c_din (ha : EJ S γ a (.int k)) (hb : DQ S γ b enc m) : CJ S γ .In a b (dhas m k) :=
  ⟨rDIn, fun X hX => op_din (by have := hX.room.un; omega), fun σ H F at_ Q q => ha σ H F at_ _ fun v H1 F1 a1 x1 d1 => hb σ H1 F1 a1 _ fun u H2 F2 a2 x2 ⟨ad, ks, e1, h1, h2⟩ => by
    subst e1
    cases d1
    refine ⟨ad, _, rfl, dget_of (F := F2) h1, ?_⟩
    rw [DK.has h2]
    exact q H2 F2 a2 (x1.trans x2)⟩
theorem c_dnotin (ha : EJ S γ a (.int k)) (hb : DQ S γ b enc m) : CJ S γ .NotIn a b (!dhas m k) :=
  ⟨rDNotIn, fun X hX => op_dnotin (by have := hX.room.un; omega), fun σ H F at_ Q q => ha σ H F at_ _ fun v H1 F1 a1 x1 d1 => hb σ H1 F1 a1 _ fun u H2 F2 a2 x2 ⟨ad, ks, e1, h1, h2⟩ => by
    subst e1
    cases d1
    refine ⟨ad, _, rfl, dget_of (F := F2) h1, ?_⟩
    rw [DK.has h2]
    exact q H2 F2 a2 (x1.trans x2)⟩
theorem e_lenD (hg : IsGl S "len") (hm : S.mg "len" = none) (ha : DQ S γ a enc m) (hs : PlainE a) : EJ S γ (.Call (.Name "len" p) [a] [] pos) (.int (m.length : Int)) :=
  w_b1 (r := fun vs H Q => ∃ (a : Addr) (ks : List (Key × V)), vs = [V.ref a] ∧ Rd H a (.dK ks) ∧ Q (.int ks.length) H) (fun X hX => cr_lenD) hg hm PySem.boot_len hs ha (fun v H0 F0 H F Q at_ x ⟨ad, ks, e1, h1, h2⟩ k2 => by
    subst e1
    refine ⟨ad, ks, rfl, h1, ?_⟩
    have hl : ks.length = m.length := by rw [h2.len]; unfold kvD; rw [List.length_map]
    rw [hl]
    exact k2 _ H F at_.hf (Ex2.refl H F) (.int _)) (by decide) (by decide)
/-- {} -/
theorem f_dict0 : FD S γ (.Dict [] [] pos) enc [] := fun σ H F at_ Q q =>
  wE_of (fun X hX => pe_dnewK) fun ad hn => q _ _ F (at_.ex (ex_newH hn) (at_.hf.newH hn)) (ex_newH hn) ⟨ad, [], rfl, hn, at_.hf.fnone hn, upd_same, .nil⟩
/-- {k: v} -/
theorem f_dict1 (ha : EJ S γ a (.int k)) (hb : EJ S γ b (enc x)) : FD S γ (.Dict [some a] [b] pos) enc [(k, x)] := fun σ H F at_ Q q =>
  wE_of (fun X hX => pe_disp (pps_cons (pe_w hX) (pe_w hX) pps_nil) (by rfl) (by rfl) (fun z => by cases z) (by show 1 ≤ 15; decide)) fun ad hn => by
    have a0 := at_.ex (ex_newH (o := .dK []) hn) (at_.hf.newH hn)
    refine ha σ _ F a0 _ fun v H1 F1 a1 x1 d1 => hb σ H1 F1 a1 _ fun u H2 F2 a2 x2 d2 => ?_
    have x12 := (ex_newH (t := S.tabs) (F := F) (o := .dK []) hn).trans (x1.trans x2)
    have e2 : H2 ad = some (.dK []) := (x1.trans x2).h.keep ad _ upd_same fun _ z => by cases z
    cases d1
    have n2 : F2 ad = none := by
      cases z : F2 ad with
      | none => rfl
      | some w =>
        have := (x1.trans x2).n ad w z (at_.hf.fnone hn)
        rw [upd_same] at this; cases this
    refine ⟨e2, [(.inl k, u)], rfl, (by show 1 ≤ 15; decide), ?_⟩
    have eM : mergeK [] [((.inl k : Key), u)] = [(.inl k, u)] := rfl
    rw [eM]
    refine q _ _ F2 (a2.mut (Loose.new at_ hn) n2 (at_.ext.back hn) (fun ps z => by rw [e2] at z; cases z) (NotCode.dk e2)) ?_ ⟨ad, _, rfl, hn, n2, upd_same, .cons d2 .nil⟩
    exact ⟨x12.h.mut hn (NotCode.dk e2) (fun ps z => by rw [e2] at z; cases z), x12.f, x12.n⟩
end
/-! statements -/
def dputO {β : Type} (m : List (Int × β)) (k : Int) (v : β) : Option (List (Int × β)) := if m.length < 16777216 then some (dput m k v) else none
section
variable {S : Stat} {γ : Gm} {e a : Expr} {β : Type} {enc : β → PyData} {m m2 : List (Int × β)} {k : Int} {v : β} {pos px pn pt : Pos} {p : Post} {rest : List Stmt}
theorem s1_setFD {x : Str} {i : Nat} (n : NmOk S x i) (h : FD S γ e enc m) (hs : ∀ X, IsCx S X → swapsWith e (some (.Name x px)) pos.line X.env = pure false) (hp : p.nx (γ.set i (.ow (.dict (kvD enc m))))) : SJ1 S γ (.Assign [.Name x px] e pos) p := fun σ H F at_ D k1 k2 =>
  wS1_of (fun X hX => ps_set (i := i) (by rw [hX.N]; exact n.nd) (by rw [hX.N]; exact n.at_) (hX.loc n.loc) (pe_w hX) (hs X hX) (hX.fnl n.fn)) (h σ H F at_ _ fun v H1 F1 a1 x1 ⟨a, ks, e1, h1, h2, h3, h4⟩ => by
    subst e1
    exact k1 _ _ H1 F1 hp (a1.setOw ⟨at_.ext.back h1, h2, ks, h3, h4⟩ fun j e hj z => Loose.new at_ h1 j e hj z) x1.f)
theorem j_setFD {α : Type} {post : α → Post} {o : Option α} {x : Str} {i : Nat} (n : NmOk S x i) (h : FD S γ e enc m) (hs : ∀ X, IsCx S X → swapsWith e (some (.Name x px)) pos.line X.env = pure false) (hr : J S (γ.set i (.ow (.dict (kvD enc m)))) rest post o) : J S γ (.Assign [.Name x px] e pos :: rest) post o := fun y hy =>
  s_cons (N := fun g => g = γ.set i (.ow (.dict (kvD enc m)))) (s1_setFD n h hs rfl) fun g hg => by subst hg; exact hr y hy
theorem s1_dput {x : Str} {j : Nat} (hN : S.N[j]? = some x) (hv : Vis S.sc x) (hg : γ[j]? = some (.ow (.dict (kvD enc m)))) (h : EJ S γ e (enc v)) (hi : EJ S γ a (.int k)) (hk : dputO m k v = some m2) (hd : (x == ("__debug__" : Str)) = false) (hcd : (x == ("__classdict__" : Str)) = false)
    (hs : ∀ X : Cx, swapsWith e (some (.Subscript (.Name x pn) a pt)) pos.line X.env = pure false) (hp : p.nx (γ.set j (.ow (.dict (kvD enc m2))))) : SJ1 S γ (.Assign [.Subscript (.Name x pn) a pt] e pos) p := fun σ H F at_ D k1 k2 => by
  obtain ⟨b, h1, hB, hF, ks, h2, h3⟩ := at_.ow j _ hg
  unfold dputO at hk
  split at hk
  case isFalse => cases hk
  rename_i hl
  cases hk
  refine wS1_of (fun X hX => ps_dput (by have := hX.room.un; omega) (pe_var (i := j) (by rw [hX.N]; exact hN) (by rw [hX.sc]; exact hv) hd hcd) (pe_w hX) (pe_w hX) (hs X)) (h σ H F at_ _ fun w H1 F1 a1 x1 dv => ⟨.ref b, h1, ?_⟩)
  refine hi σ H1 F1 a1 _ fun u H2 F2 a2 x2 du => ?_
  cases du
  have x12 := x1.trans x2
  have h2' : H2 b = some (.dK ks) := x12.h.keep b _ h2 fun _ z => by cases z
  have hz : ks.length < sizeLine := by
    rw [h3.len, sizeLine_eq]
    unfold kvD
    rw [List.length_map]
    exact hl
  refine ⟨b, _, rfl, DPut.k (k := .inl k) h2' hz, k1 _ σ _ F2 hp (a2.owSetX hg h1 (fun ps z => by rw [h2'] at z; cases z) (NotCode.dk h2') ⟨_, upd_same, DK.put (dv.zmono x2.f) (h3.zmono x12.f)⟩) x12.f⟩
theorem j_dput {α : Type} {post : α → Post} {o : Option α} {x : Str} {j : Nat} (hN : S.N[j]? = some x) (hv : Vis S.sc x) (hg : γ[j]? = some (.ow (.dict (kvD enc m)))) (h : EJ S γ e (enc v)) (hi : EJ S γ a (.int k)) (hk : dputO m k v = some m2) (hd : (x == ("__debug__" : Str)) = false) (hcd : (x == ("__classdict__" : Str)) = false)
    (hs : ∀ X : Cx, swapsWith e (some (.Subscript (.Name x pn) a pt)) pos.line X.env = pure false) (hr : J S (γ.set j (.ow (.dict (kvD enc m2)))) rest post o) : J S γ (.Assign [.Subscript (.Name x pn) a pt] e pos :: rest) post o := fun y hy =>
  s_cons (N := fun g => g = γ.set j (.ow (.dict (kvD enc m2)))) (s1_dput hN hv hg h hi hk hd hcd hs rfl) fun g hg => by subst hg; exact hr y hy
end
end SM

set_option autoImplicit false
set_option Elab.async false
set_option linter.all false
set_option maxRecDepth 100000
set_option maxHeartbeats 4000000
namespace SM
open PySem PySem.Spec PyProof.Rows L2
/-! ### a dict that is walked is locked, and lent -/
/-- the lists and tuples of F are those of F' -/
def SeqLe (F F' : Hp) : Prop := (∀ a xs, Rd F a (.lst xs) → Rd F' a (.lst xs)) ∧ (∀ a xs, Rd F a (.tup xs) → Rd F' a (.tup xs))
end SM
namespace L2
open PySem PySem.Spec PyProof.Rows
mutual
theorem Dp.seq {K : PySem.W.Frag} {F F' : Hp} (e : SM.SeqLe F F') : ∀ {v : V} {d : PyData}, Dp K F v d → Dp K F' v d
  | _, _, .non => .non
  | _, _, .bl b => .bl b
  | _, _, .int i => .int i
  | _, _, .str x => .str x
  | _, _, .lst h a => .lst (h.elim (fun z => .inl (e.1 _ _ z)) .inr) (DpAll.seq e a)
  | _, _, .tup h a => .tup (h.elim (fun z => .inl (e.2 _ _ z)) .inr) (DpAll.seq e a)
theorem DpAll.seq {K : PySem.W.Frag} {F F' : Hp} (e : SM.SeqLe F F') : ∀ {vs : List V} {ds : List PyData}, DpAll K F vs ds → DpAll K F' vs ds
  | _, _, .nil => .nil
  | _, _, .cons h a => .cons (Dp.seq e h) (DpAll.seq e a)
end
end L2
namespace SM
open PySem PySem.Spec PyProof.Rows L2
theorem DK.seq {K : PySem.W.Frag} {F F' : Hp} (e : SeqLe F F') : ∀ {ks : List (Key × V)} {kvs : List (PyData × PyData)}, DK K F ks kvs → DK K F' ks kvs
  | _, _, .nil => .nil
  | _, _, .cons h t => .cons (Dp.seq e h) (t.seq e)
theorem rmA_seq {F : Hp} {a : Addr} {o : Obj} {ks : List (Key × V)} (h : F a = some (.frz o (.dK ks))) : SeqLe F (rmA F a) := by
  have key : ∀ (b : Addr) (u : HO), Rd F b u → (∀ ks, u ≠ .dK ks) → (∀ o v, u ≠ .frz o v) → Rd (rmA F a) b u := fun b u r hu hf => by
    have n : b ≠ a := by
      intro z
      subst z
      rcases r with r | ⟨o', r⟩
      · rw [h] at r
        exact hf _ _ (Option.some.inj r).symm
      · rw [h] at r
        have r := Option.some.inj r
        injection r with _ r
        exact hu _ r.symm
    rcases r with r | ⟨o', r⟩
    · exact .inl (by rw [rmA_ne n]; exact r)
    · exact .inr ⟨o', by rw [rmA_ne n]; exact r⟩
  exact ⟨fun b xs r => key b _ r (fun _ z => (by cases z)) (fun _ _ z => (by cases z)), fun b xs r => key b _ r (fun _ z => (by cases z)) (fun _ _ z => (by cases z))⟩
section
variable {S : Stat} {γ : Gm} {σ : L2.St} {H F H' F' : Hp} {a : Addr} {j : Nat} {kvs : List (PyData × PyData)} {ks : List (Key × V)} {od : Obj}
theorem At.lendD (h : At S γ σ H F) (hg : γ[j]? = some (.ow (.dict kvs))) : ∃ (a : Addr) (ks : List (Key × V)), H a = some (.dK ks) ∧ F a = none ∧ S.B a = none ∧ σ[j]? = some (some (.ref a)) ∧ ∀ od : Obj, At S (γ.set j (.lk ((a : Nat) : Int) kvs)) σ (upd H a (.frz od (.dK ks))) (upd F a (.frz od (.dK ks))) := by
  obtain ⟨a, h1, hB, hF, ks, h2, h3⟩ := h.ow j _ hg
  refine ⟨a, ks, h2, hF, hB, h1, fun od => ?_⟩
  have lo : ∀ (k : Nat) (e : PyData), (γ.set j .un)[k]? = some (.ow e) → σ[k]? ≠ some (some (.ref a)) := fun k e hk z => by
    rcases set_cases hk with ⟨_, e1, _⟩ | ⟨hne, hk⟩
    · cases e1
    · exact hne (h.apart k j e _ a hk hg z h1)
  have le : Le F (upd F a (.frz od (.dK ks))) := Le.new hF
  have hf : HF (upd H a (.frz od (.dK ks))) (upd F a (.frz od (.dK ks))) := ⟨fun b u e => by
      by_cases hb : b = a
      · subst hb; rw [upd_same] at e ⊢; exact e
      · rw [upd_ne hb] at e ⊢; exact h.hf.sub b u e, fun b ps e => by
      by_cases hb : b = a
      · subst hb; rw [upd_same] at e; cases e
      · rw [upd_ne hb] at e; exact h.hf.ntb b ps e⟩
  have nt : ∀ ps, H a ≠ some (.tbl ps) := fun ps z => by rw [h2] at z; cases z
  refine ⟨⟨h.ext.mut hB (NotCode.dk h2) nt, hf, h.f0.trans le, fun b o e n => ?_, ⟨fun P hP => ?_, h.tabs.2.upd (NotCode.dk h2) nt⟩⟩, by rw [List.length_set]; exact h.len, fun k e hk => ?_, fun k e hk => ?_, fun k l e f b hk hl x y => ?_, fun k n kvs' hk => ?_⟩
  · by_cases hb : b = a
    · subst hb; exact hB
    · rw [upd_ne hb] at e; exact h.new b o e n
  · obtain ⟨ps, q1, q2⟩ := h.tabs.1 P hP
    exact ⟨ps, by rw [upd_ne (fun z => by rw [z] at q1; exact nt ps q1)]; exact q1, q2⟩
  · rcases set_cases hk with ⟨rfl, e1, _⟩ | ⟨hne, hk⟩
    · cases e1
    · obtain ⟨v, g1, g2⟩ := h.sh k e hk
      exact ⟨v, g1, g2.zmono le⟩
  · rcases set_cases hk with ⟨rfl, e1, _⟩ | ⟨hne, hk⟩
    · cases e1
    · obtain ⟨b, g1, g2⟩ := h.ow k e hk
      have nb : b ≠ a := fun z => hne (h.apart k j e _ a hk hg (by rw [g1, z]) h1)
      refine ⟨b, g1, g2.keep (fun u z => by rw [upd_ne nb]; exact z) le ?_⟩
      rw [upd_ne nb]
      exact g2.fnone
  · rcases set_cases hk with ⟨rfl, e1, _⟩ | ⟨_, hk⟩
    · cases e1
    · rcases set_cases hl with ⟨rfl, e1, _⟩ | ⟨_, hl⟩
      · cases e1
      · exact h.apart k l e f b hk hl x y
  · rcases set_cases hk with ⟨rfl, e1, _⟩ | ⟨hne, hk⟩
    · cases e1
      exact ⟨a, od, ks, rfl, h1, upd_same, h3.zmono le⟩
    · obtain ⟨b, o, ks', q0, q1, q2, q3⟩ := h.lk k n kvs' hk
      exact ⟨b, o, ks', q0, q1, le _ _ q2, q3.zmono le⟩
theorem ext_unlock {t : Tbs} (h1 : H a = some (.dK ks)) (x : Ext t (upd H a (.frz od (.dK ks))) H') (h2 : H' a = some (.frz od (.dK ks))) : Ext t H (upd H' a (.dK ks)) where
  keep := fun b u e n => by
    by_cases hb : b = a
    · subst hb; rw [h1] at e; rw [upd_same]; exact e
    · rw [upd_ne hb]
      exact x.keep b u (by rw [upd_ne hb]; exact e) n
  tab := fun b ps e => by
    have hb : b ≠ a := fun z => by subst z; rw [h1] at e; cases e
    obtain ⟨ps', q1, q2⟩ := x.tab b ps (by rw [upd_ne hb]; exact e)
    exact ⟨ps', by rw [upd_ne hb]; exact q1, q2⟩
  lam := fun l => (x.lam (l.upd (NotCode.dk h1) fun ps z => by rw [h1] at z; cases z)).upd (NotCode.frz h2) fun ps z => by rw [h2] at z; cases z
theorem hf_unlock (h : HF H' F') : HF (upd H' a (.dK ks)) (rmA F' a) := ⟨fun b o e => by
    obtain ⟨n, e1⟩ := rmA_some e
    rw [upd_ne n]; exact h.sub b o e1, fun b ps e => h.ntb b ps (rmA_some e).2⟩
/-- back from an expression -/
theorem At.backD {γ2 : Gm} {σ2 : L2.St} (h : At S γ σ H F) (h1 : H a = some (.dK ks)) (h2 : F a = none) (h4 : At S γ2 σ2 H' F') (x : Ex2 S.tabs (upd H a (.frz od (.dK ks))) (upd F a (.frz od (.dK ks))) H' F') :
    H' a = some (.frz od (.dK ks)) ∧ At S γ σ (upd H' a (.dK ks)) (rmA F' a) ∧ Ex2 S.tabs H F (upd H' a (.dK ks)) (rmA F' a) ∧ SeqLe F' (rmA F' a) := by
  have hFa : F' a = some (.frz od (.dK ks)) := x.f a _ upd_same
  have hHa := h4.hf.sub a _ hFa
  have x2 : Ex2 S.tabs H F (upd H' a (.dK ks)) (rmA F' a) := ⟨ext_unlock h1 x.h hHa, fun b o e => by
      have n : b ≠ a := fun z => by subst z; rw [h2] at e; cases e
      rw [rmA_ne n]
      exact x.f b o (by rw [upd_ne n]; exact e), fun b o e n => by
      obtain ⟨n1, e1⟩ := rmA_some e
      have := x.n b o e1 (by rw [upd_ne n1]; exact n)
      rw [upd_ne n1] at this
      exact this⟩
  exact ⟨hHa, h.ex x2 (hf_unlock h4.hf), x2, rmA_seq hFa⟩
variable {e : Expr}
/-- an expression that walks over an owned dict -/
theorem f_lockD {ds : List PyData} (hg : γ[j]? = some (.ow (.dict kvs))) (h : ∀ n : Int, FJ S (γ.set j (.lk n kvs)) e ds) : FJ S γ e ds := fun σ H F at_ Q q => by
  obtain ⟨a, ks, h1, h2, h3, h4, at2⟩ := at_.lendD hg
  refine wE_of (fun X hX => pe_lock (pe_w hX)) ⟨a, .dK ks, h1, True.intro, fun od => h _ σ _ _ (at2 od) _ fun v H' F' a1 x1 ⟨b, us, e1, g1, g2, g3, g4⟩ => ?_⟩
  obtain ⟨b0, b1, b2, b3⟩ := at_.backD h1 h2 a1 x1
  have nb : b ≠ a := fun z => by subst z; rw [upd_same] at g1; cases g1
  refine ⟨b0, q v _ _ b1 b2 ⟨b, us, e1, ?_, ?_, ?_, g4.seq b3⟩⟩
  · rw [upd_ne nb] at g1; exact g1
  · rw [rmA_ne nb]; exact g2
  · rw [upd_ne nb]; exact g3
theorem e_lockD {d : PyData} (hg : γ[j]? = some (.ow (.dict kvs))) (h : ∀ n : Int, EJ S (γ.set j (.lk n kvs)) e d) : EJ S γ e d := fun σ H F at_ Q q => by
  obtain ⟨a, ks, h1, h2, h3, h4, at2⟩ := at_.lendD hg
  refine wE_of (fun X hX => pe_lock (pe_w hX)) ⟨a, .dK ks, h1, True.intro, fun od => h _ σ _ _ (at2 od) _ fun v H' F' a1 x1 d1 => ?_⟩
  obtain ⟨b0, b1, b2, b3⟩ := at_.backD h1 h2 a1 x1
  exact ⟨b0, q v _ _ b1 b2 (d1.seq b3)⟩
/-- no other slot is locked -/
def noLk (γ : Gm) (j : Nat) : Prop := ∀ (i : Nat) (n : Int) (kvs : List (PyData × PyData)), γ[i]? = some (.lk n kvs) → i = j
/-- back from a statement -/
theorem At.unlock {γ' : Gm} {σ' : L2.St} (h : At S γ' σ' H' F') (hj : γ'[j]? = some (.lk ((a : Nat) : Int) kvs)) (hn : noLk γ' j) (hB : S.B a = none) (hF0 : S.F0 a = none) (hFa : F' a = some (.frz od (.dK ks))) : H' a = some (.frz od (.dK ks)) ∧ At S (γ'.set j (.ow (.dict kvs))) σ' (upd H' a (.dK ks)) (rmA F' a) := by
  have hHa := h.hf.sub a _ hFa
  have sl := rmA_seq hFa
  have nt : ∀ ps, H' a ≠ some (.tbl ps) := fun ps z => by rw [hHa] at z; cases z
  obtain ⟨b0, o', ks', q0, g1, r, t⟩ := h.lk j _ _ hj
  have q0 : a = b0 := Int.ofNat_inj.mp q0
  subst q0
  have hk : DK S.K F' ks kvs := by
    rw [hFa] at r
    have r := Option.some.inj r
    injection r with _ r
    injection r with r
    exact r ▸ t
  refine ⟨hHa, ⟨h.ext.mut hB (NotCode.frz hHa) nt, hf_unlock h.hf, fun b o e => ?_, fun b o e n => h.new b o (rmA_some e).2 n, ⟨fun P hP => ?_, h.tabs.2.upd (NotCode.frz hHa) nt⟩⟩, by rw [List.length_set]; exact h.len, fun k e hk' => ?_, fun k e hk' => ?_, fun k l e f b hk' hl x y => ?_, fun k n kvs' hk' => ?_⟩
  · have n : b ≠ a := fun z => by subst z; rw [hF0] at e; cases e
    rw [rmA_ne n]; exact h.f0 b o e
  · obtain ⟨ps, q1, q2⟩ := h.tabs.1 P hP
    exact ⟨ps, by rw [upd_ne (fun z => by rw [z] at q1; exact nt ps q1)]; exact q1, q2⟩
  · rcases set_cases hk' with ⟨rfl, e1, _⟩ | ⟨hne, hk'⟩
    · cases e1
    · obtain ⟨w, q1, q2⟩ := h.sh k e hk'
      exact ⟨w, q1, q2.seq sl⟩
  · have own : ∀ {b : Addr} {e : PyData}, Own S H' F' b e → b ≠ a ∧ Own S (upd H' a (.dK ks)) (rmA F' a) b e := fun {b e} o => by
      have nb : b ≠ a := fun z => by subst z; have := o.fnone; rw [hFa] at this; cases this
      refine ⟨nb, o.1, by rw [rmA_ne nb]; exact o.fnone, ?_⟩
      rcases o.2.2.cases with ⟨ds, vs, rfl, h4, h5⟩ | ⟨kvs', ks', rfl, h4, h5⟩
      · exact ⟨vs, by rw [upd_ne nb]; exact h4, h5.seq sl⟩
      · exact ⟨ks', by rw [upd_ne nb]; exact h4, h5.seq sl⟩
    rcases set_cases hk' with ⟨rfl, e1, _⟩ | ⟨hne, hk'⟩
    · cases e1
      exact ⟨a, g1, hB, rmA_same, ks, upd_same, hk.seq sl⟩
    · obtain ⟨b, q1, q2⟩ := h.ow k e hk'
      exact ⟨b, q1, (own q2).2⟩
  · have notA : ∀ {k : Nat} {e : PyData} {b : Addr}, γ'[k]? = some (.ow e) → σ'[k]? = some (some (.ref b)) → b ≠ a := fun {k e b} hk' x z => by
      obtain ⟨c, q1, q2⟩ := h.ow k e hk'
      rw [x] at q1
      cases q1
      subst z
      have := q2.fnone
      rw [hFa] at this; cases this
    rcases set_cases hk' with ⟨rfl, e1, _⟩ | ⟨hne, hk2⟩
    · rcases set_cases hl with ⟨rfl, e2, _⟩ | ⟨hne2, hl⟩
      · rfl
      · rw [g1] at x
        cases x
        exact absurd rfl (notA hl y)
    · rcases set_cases hl with ⟨rfl, e2, _⟩ | ⟨hne2, hl⟩
      · rw [g1] at y
        cases y
        exact absurd rfl (notA hk2 x)
      · exact h.apart k l e f b hk2 hl x y
  · rcases set_cases hk' with ⟨rfl, e1, _⟩ | ⟨hne, hk'⟩
    · cases e1
    · exact absurd (hn k n kvs' hk') hne
theorem le_unlock (h2 : F a = none) (le : Le (upd F a (.frz od (.dK ks))) F') : Le F (rmA F' a) := fun b o e => by
  have n : b ≠ a := fun z => by subst z; rw [h2] at e; cases e
  rw [rmA_ne n]
  exact le b o (by rw [upd_ne n]; exact e)
/-- a statement that walks over an owned dict -/
theorem s1_lockD {st : Stmt} {p : Post} (hg : γ[j]? = some (.ow (.dict kvs))) (h : ∀ n : Int, SJ1 S (γ.set j (.lk n kvs)) st ⟨fun g => g[j]? = some (.lk n kvs) ∧ noLk g j ∧ p.nx (g.set j (.ow (.dict kvs))), fun _ => False⟩) : SJ1 S γ st p := fun σ H F at_ D k1 k2 => by
  obtain ⟨a, ks, h1, h2, h3, h4, at2⟩ := at_.lendD hg
  have hF0 : S.F0 a = none := by
    cases z : S.F0 a with
    | none => rfl
    | some o => have := at_.f0 a o z; rw [h2] at this; cases this
  refine wS1_of (fun X hX => ps_lock (ps_w hX)) ⟨a, .dK ks, h1, True.intro, fun od => h _ σ _ _ (at2 od) _ (fun γ' σ' H' F' ⟨n1, n2, n3⟩ a1 l1 => ?_) fun d v H' F' z => z.elim⟩
  obtain ⟨b0, b1⟩ := a1.unlock n1 n2 h3 hF0 (l1 a _ upd_same)
  exact ⟨b0, k1 _ _ _ _ n3 b1 (le_unlock h2 l1)⟩
end
end SM

set_option autoImplicit false
set_option Elab.async false
set_option linter.all false
set_option maxRecDepth 100000
set_option maxHeartbeats 4000000
namespace SM
open PySem PySem.Spec PyProof.Rows L2
/-! ### a locked dict is walked -/
theorem DK.at {K : PySem.W.Frag} {F : Hp} {β : Type} {enc : β → PyData} : ∀ {ks : List (Key × V)} {m : List (Int × β)} {i : Nat} {k : Key} {v : V}, DK K F ks (kvD enc m) → ks[i]? = some (k, v) → ∃ p : Int × β, m[i]? = some p ∧ k = .inl p.1 ∧ Dp K F v (enc p.2)
  | [], _, i, _, _, _, e => by simp at e
  | _ :: _, [], _, _, _, h, _ => by cases h
  | x :: ks, p :: m, i, k, v, h, e => by
    cases h with
    | cons h t =>
      cases i with
      | zero =>
        simp only [List.getElem?_cons_zero, Option.some.injEq] at e
        cases e
        exact ⟨p, rfl, rfl, h⟩
      | succ i =>
        obtain ⟨q, h1, h2⟩ := DK.at (m := m) (i := i) t (by simpa using e)
        exact ⟨q, by simpa using h1, h2⟩
def dsortO {β : Type} (m : List (Int × β)) : Option (List Int) := if m.length < 64 then some (sortB (m.map (·.1))) else none
section
variable {S : Stat} {γ : Gm} {tg a : Expr} {β : Type} {enc : β → PyData} {m : List (Int × β)} {pos : Pos}
theorem i_keysD {j : Nat} {x : Str} {n : Int} (hN : S.N[j]? = some x) (hv : Vis S.sc x) (hg : γ[j]? = some (.lk n (kvD enc m))) (hd : (x == ("__debug__" : Str)) = false := by decide) (hcd : (x == ("__classdict__" : Str)) = false := by decide) : IF S γ tg (.Name x pos) ((m.map (·.1)).map PyData.int) := fun σ H F at_ R q X hX pins s I => by
  obtain ⟨ad, o, ks, _, h1, h2, h3⟩ := at_.lk j _ _ hg
  have hH := at_.hf.sub ad _ h2
  have hl : ks.length = m.length := by rw [h3.len]; unfold kvD; rw [List.length_map]
  have hz : ks.length ≤ sizeLine := (dk_rd I.hok (.inr ⟨o, hH⟩)).1
  refine (pi_keys (pe_var (i := j) (by rw [hX.N]; exact hN) (by rw [hX.sc]; exact hv) hd hcd)).run pins s σ H R I ⟨.ref ad, h1, ad, o, rfl, .inl ⟨ks, hH, q _ H F at_ (Ex2.refl H F) (by rw [List.length_map, List.length_map, ← hl]; exact hz) ?_⟩⟩
  rw [List.length_map, List.length_map, ← hl]
  refine walk_keys.mono (fun H' le => le ad _ h2) fun i H1 x H' hi _ ⟨e1, k, w, e2, e3⟩ => ?_
  obtain ⟨p, q1, rfl, q3⟩ := DK.at h3 e2
  refine ⟨.int p.1, by rw [List.getElem?_map, List.getElem?_map, q1]; rfl, .inl ⟨e1, ?_⟩⟩
  rw [e3]
  exact .int _
theorem i_itemsD {j : Nat} {x : Str} {n : Int} {elts : List Expr} {kk : Nat} {tpos apos cpos pn : Pos} (hN : S.N[j]? = some x) (hv : Vis S.sc x) (hg : γ[j]? = some (.lk n (kvD enc m))) (hbase : ∀ X : Cx, attributeBase (.Name x pn) "items" X.env (eval (.Name x pn) X.env) = eval (.Name x pn) X.env) (hline : (apos.endLine == cpos.line) = true) (hd : (x == ("__debug__" : Str)) = false := by decide) (hcd : (x == ("__classdict__" : Str)) = false := by decide) :
    IF S γ (.Tuple elts kk tpos) (.Call (.Attribute (.Name x pn) "items" apos) [] [] cpos) (m.map (eP2 eI enc)) := fun σ H F at_ R q X hX pins s I => by
  obtain ⟨ad, o, ks, _, h1, h2, h3⟩ := at_.lk j _ _ hg
  have hH := at_.hf.sub ad _ h2
  have hl : ks.length = m.length := by rw [h3.len]; unfold kvD; rw [List.length_map]
  have hz : ks.length ≤ sizeLine := (dk_rd I.hok (.inr ⟨o, hH⟩)).1
  refine (pi_items (pe_var (i := j) (by rw [hX.N]; exact hN) (by rw [hX.sc]; exact hv) hd hcd) (hbase X) hline).run pins s σ H R I ⟨.ref ad, h1, ad, o, ks, rfl, hH, q _ H F at_ (Ex2.refl H F) (by rw [List.length_map, ← hl]; exact hz) ?_⟩
  rw [List.length_map, ← hl]
  refine walk_items.mono (fun H' le => le ad _ h2) fun i H1 x H' hi _ ⟨T, y1, y2, e1, e2, e3, e4, e5⟩ => ?_
  obtain ⟨kv, q0, rfl⟩ := Option.map_eq_some_iff.mp e4
  obtain ⟨kv', q0', rfl⟩ := Option.map_eq_some_iff.mp e5
  rw [q0] at q0'
  cases q0'
  obtain ⟨p, q1, q2, q3⟩ := DK.at (k := kv.1) (v := kv.2) h3 q0
  refine ⟨.tuple [.int p.1, enc p.2], by rw [List.getElem?_map, q1]; rfl, .inr ⟨T, _, _, e2, e3, e1, rfl, ?_⟩⟩
  rw [q2]
  exact .cons (.int _) (.cons q3 .nil)
/-- sorted(d) -/
theorem f_sortedD {p : Pos} (hg : IsGl S "sorted") (hm : S.mg "sorted" = none) (ha : DQ S γ a enc m) (hs : PlainE a) (hl : m.length < 64) : FJ S γ (.Call (.Name "sorted" p) [a] [] pos) ((sortB (m.map (·.1))).map PyData.int) :=
  w_b1 (r := fun xs H Q => ∃ (a : Addr) (kvs : List (Key × V)) (ks : List Int), xs = [.ref a] ∧ Rd H a (.dK kvs) ∧ kvs.map (·.1) = ks.map Sum.inl ∧ ks.length < 64 ∧ ∀ (ys : List Int) (p : Addr), ys.Perm ks → ys.Pairwise (· ≤ ·) → H p = none → Q (.ref p) (upd H p (.lst (ys.map V.int)))) (fun X hX => call_sortedDI hX.calm) hg hm boot_sorted hs ha (fun v H0 F0 H F Q at_ x ⟨ad, ks, e1, h1, h2⟩ k2 => by
    subst e1
    have hk : ∀ {ks : List (Key × V)} {m : List (Int × β)}, DK S.K F ks (kvD enc m) → ks.map (·.1) = (m.map (·.1)).map Sum.inl := by
      intro ks
      induction ks with
      | nil => intro m h; cases m with
        | nil => rfl
        | cons p m => cases h
      | cons x ks ih => intro m h; cases m with
        | nil => cases h
        | cons p m => cases h with
          | cons h t => rw [List.map_cons, List.map_cons, List.map_cons, ih t]
    refine ⟨ad, ks, m.map (·.1), rfl, h1, hk h2, by rw [List.length_map]; exact hl, fun ys l pm so hn => ?_⟩
    have e : sortB (m.map (·.1)) = ys := sortB_of (so.imp fun {a b} h => by show decide (b < a) = false; rw [decide_eq_false_iff_not]; omega) pm
    rw [e] at k2
    exact k2 _ _ F (at_.hf.newH hn) (ex_newH hn) ⟨l, ys.map V.int, rfl, x.h.back hn, at_.hf.fnone hn, upd_same, dpAll_ints⟩) (by decide) (by decide)
theorem f_sortedDO {p : Pos} {ys : List Int} (hg : IsGl S "sorted") (hm : S.mg "sorted" = none) (ha : DQ S γ a enc m) (hs : PlainE a) (hr : dsortO m = some ys) : FJ S γ (.Call (.Name "sorted" p) [a] [] pos) (ys.map PyData.int) := by
  unfold dsortO at hr
  split at hr
  case isFalse => cases hr
  rename_i hl
  cases hr
  exact f_sortedD hg hm ha hs hl
end
/-! the lock at a statement -/
def isLk : Option Sl → Bool
  | some (.lk _ _) => true
  | _ => false
def noDB (γ : Gm) (j : Nat) : Bool := (List.range γ.length).all fun i => decide (i = j) || !isLk γ[i]?
theorem noLk_of {γ : Gm} {j : Nat} (h : noDB γ j = true) : noLk γ j := fun i n kvs hi => by
  have hl : i < γ.length := (List.getElem?_eq_some_iff.mp hi).1
  have := List.all_eq_true.mp h i (List.mem_range.mpr hl)
  rw [hi] at this
  simpa [isLk] using this
section
variable {S : Stat} {γ γ3 : Gm} {st : Stmt} {rest : List Stmt} {kvs : List (PyData × PyData)} {j : Nat} {pos : Pos} {tg iter elt : Expr}
theorem j_lockD {α : Type} {post : α → Post} {o : Option α} {γ2 : Int → Gm} (hg : γ[j]? = some (.ow (.dict kvs))) (h : ∀ n : Int, SJ1 S (γ.set j (.lk n kvs)) st ⟨fun g => g = γ2 n, fun _ => False⟩) (h1 : ∀ n, (γ2 n)[j]? = some (.lk n kvs)) (h2 : ∀ n, noDB (γ2 n) j = true) (h3 : ∀ n, (γ2 n).set j (.ow (.dict kvs)) = γ3) (hr : J S γ3 rest post o) : J S γ (st :: rest) post o := fun y hy =>
  s_cons (N := fun g => g = γ3) (s1_lockD hg fun n => fun σ H F at_ D k1 k2 => h n σ H F at_ D (fun γ' σ' H' F' hn a l => k1 γ' σ' H' F' (by subst hn; exact ⟨h1 n, noLk_of (h2 n), h3 n⟩) a l) k2) fun g hg => by subst hg; exact hr y hy
theorem s1_setLcM {τ β : Type} {p : Post} {px : Pos} {encA : τ → PyData} {encB : β → PyData} {xs : List τ} {ys : List β} {f : τ → Option (Option β)} {x : Str} {i : Nat} {ifs : List Expr} {scope : Scope} {own : List (Str × Nat)} {pl : Pos} (n : NmOk S x i) (hy : S.sc.names.lookup x = some .local)
    (hi : IX S γ tg iter (xs.map encA)) (hb : ∀ x ∈ xs, CBO (S.blk scope) (wipeG γ (own.map (·.2))) tg ifs elt (own.map (·.2)) (encA x) encB (f x)) (hr : compM f xs = some ys)
    (ok : blkC S.N S.sc scope own = true) (h1 : ifs.length ≤ 1) (hs : ∀ (X : Cx) x, foldedSetIterable iter X.env x = pure x) (hli : (px.line == pl.line) = true) (hk : S.sc.kind = .function)
    (hsn : (scope.names.any fun (n, k) => n == x && (k == .local || k == .cell)) = false) (hp : p.nx (γ.set i (.ow (.list (ys.map encB))))) : SJ1 S γ (.Assign [.Name x px] (.ListComp elt [⟨tg, iter, ifs, 0⟩] scope pl) pos) p := by
  obtain ⟨rs, l, g, e⟩ := compM_get hr
  have e2 : (rs.map fun r => r.map encB).filterMap id = ys.map encB := by rw [fm_map, ← e]
  refine s1_setLc (outs := rs.map fun r => r.map encB) n hy hi (fun i d hd => ?_) (by rw [List.length_map, List.length_map, l]) ok h1 hs hli hk hsn (by rw [e2]; exact hp)
  rw [List.getElem?_map] at hd
  obtain ⟨x, hx, rfl⟩ := Option.map_eq_some_iff.mp hd
  obtain ⟨r, h3, h4⟩ := g i x hx
  exact ⟨r.map encB, by rw [List.getElem?_map, h3]; rfl, hb x (List.mem_of_getElem? hx) r h4⟩
end
end SM

set_option autoImplicit false
set_option Elab.async false
set_option linter.all false
set_option maxRecDepth 100000
set_option maxHeartbeats 4000000
namespace SM
open PySem PySem.Spec PyProof.Rows L2
/-! ### x = w.pop() -/
def popO {α : Type} (xs : List α) : Option (α × List α) := xs.getLast?.map fun x => (x, xs.dropLast)
theorem DpAll_dropLast {K : PySem.W.Frag} {F : Hp} {vs : List V} {ds : List PyData} (h : DpAll K F vs ds) : DpAll K F vs.dropLast ds.dropLast := by
  rw [List.dropLast_eq_take, List.dropLast_eq_take, h.zlen]
  exact h.ztake _
section
variable {S : Stat} {γ : Gm} {β : Type} {enc : β → PyData} {xs ys : List β} {y : β} {pos px pn pa pc : Pos} {p : Post} {rest : List Stmt}
theorem s1_pop {x w : Str} {i j : Nat} (n : NmOk S x i) (hN : S.N[j]? = some w) (hv : Vis S.sc w) (hg : γ[j]? = some (.ow (.list (xs.map enc)))) (hk : popO xs = some (y, ys)) (hd : (w == ("__debug__" : Str)) = false) (hcd : (w == ("__classdict__" : Str)) = false)
    (hba : ∀ X : Cx, attributeBase (.Name w pn) "pop" X.env (eval (.Name w pn) X.env) = eval (.Name w pn) X.env) (hli : (pa.endLine == pc.line) = true) (hs : ∀ X, IsCx S X → swapsWith (.Call (.Attribute (.Name w pn) "pop" pa) [] [] pc) (some (.Name x px)) pos.line X.env = pure false)
    (hp : p.nx ((γ.set j (.ow (.list (ys.map enc)))).set i (.sh (enc y)))) : SJ1 S γ (.Assign [.Name x px] (.Call (.Attribute (.Name w pn) "pop" pa) [] [] pc) pos) p := fun σ H F at_ D k1 k2 => by
  obtain ⟨a, h1, hB, hF, vs, h2, h3⟩ := at_.ow j _ hg
  unfold popO at hk
  obtain ⟨y', e1, e2⟩ := Option.map_eq_some_iff.mp hk
  cases e2
  have hlen : vs.length = xs.length := by rw [h3.zlen, List.length_map]
  have hx : (xs.map enc)[vs.length - 1]? = some (enc y) := by
    rw [hlen, List.getElem?_map, ← List.getLast?_eq_getElem?, e1]; rfl
  obtain ⟨v, g1, g2⟩ := h3.zget hx
  refine wS1_of (t := tAsg (tBM0 S.K "list" rPop (tVar j)) (gName i)) (fun X hX => ps_set (i := i) (by rw [hX.N]; exact n.nd) (by rw [hX.N]; exact n.at_) (hX.loc n.loc) (hX.K ▸ pe_bm0 PySem.F.plainAttrs_list PySem.F.slot_list_pop PySem.F.type_list_pop mt_pop (pe_var (i := j) (by rw [hX.N]; exact hN) (by rw [hX.sc]; exact hv) hd hcd) (hba X) hli) (hs X hX) (hX.fnl n.fn))
    ⟨.ref a, h1, .inl ⟨rfl, _, SqL.of h2⟩, a, vs, v, rfl, rfl, h2, g1, ?_⟩
  have a2 := at_.owSetX (d := .list (xs.dropLast.map enc)) hg h1 (fun ps z => by rw [h2] at z; cases z) (NotCode.lst h2) (o := .lst vs.dropLast) ⟨_, upd_same, by rw [List.map_dropLast]; exact DpAll_dropLast h3⟩
  exact k1 _ _ _ F hp (a2.setSh g2) (Le.refl F)
theorem j_pop {α : Type} {post : α → Post} {o : Option α} {x w : Str} {i j : Nat} (n : NmOk S x i) (hN : S.N[j]? = some w) (hv : Vis S.sc w) (hg : γ[j]? = some (.ow (.list (xs.map enc)))) (hk : popO xs = some (y, ys)) (hd : (w == ("__debug__" : Str)) = false) (hcd : (w == ("__classdict__" : Str)) = false)
    (hba : ∀ X : Cx, attributeBase (.Name w pn) "pop" X.env (eval (.Name w pn) X.env) = eval (.Name w pn) X.env) (hli : (pa.endLine == pc.line) = true) (hs : ∀ X, IsCx S X → swapsWith (.Call (.Attribute (.Name w pn) "pop" pa) [] [] pc) (some (.Name x px)) pos.line X.env = pure false)
    (hr : J S ((γ.set j (.ow (.list (ys.map enc)))).set i (.sh (enc y))) rest post o) : J S γ (.Assign [.Name x px] (.Call (.Attribute (.Name w pn) "pop" pa) [] [] pc) pos :: rest) post o := fun z hz =>
  s_cons (N := fun g => g = (γ.set j (.ow (.list (ys.map enc)))).set i (.sh (enc y))) (s1_pop n hN hv hg hk hd hcd hba hli hs rfl) fun g hg => by subst hg; exact hr z hz
end
end SM

set_option autoImplicit false
set_option Elab.async false
set_option linter.all false
set_option maxRecDepth 100000
set_option maxHeartbeats 4000000
namespace K74
open PySem PySem.Spec PyProof.Rows L2 SM
def m_do_hold_together (n1 : Int) (roads2 : (List (Int × Int))) : Option Bool :=
  (some [((0 : Int), true)]).bind fun come3 =>
  (rngO 0 n1).bind fun r4 =>
  (List.foldlM (fun (s5 : ((List (Int × Bool)))) (x6 : Int) =>
  (List.foldlM (fun (s7 : ((List (Int × Bool)))) (x8 : (Int × Int)) =>
  (if ((dhas s7 x8.1) || (dhas s7 x8.2)) = true then ((dputO s7 x8.1 true).bind fun come12 =>
  (dputO come12 x8.2 true).bind fun come13 =>
  some (come13))
  else (some (s7))).bind fun (j11 : ((List (Int × Bool)))) =>
  some (j11)) ((s5) : ((List (Int × Bool)))) roads2).bind fun (s7 : ((List (Int × Bool)))) =>
  some (s7)) ((come3) : ((List (Int × Bool)))) r4).bind fun (s5 : ((List (Int × Bool)))) =>
  some (decide (((List.length s5 : Nat) : Int) = n1))
def m_does_day_hold (n1 : Int) (roads2 : (List (Int × Int))) (turns3 : (List Int)) (day4 : Int) : Option Bool :=
  (some (List.map (fun (x5 : (Int × Int)) => x5.1) (List.filter (fun (x5 : (Int × Int)) => (decide (x5.2 = day4))) (enumI turns3)))).bind fun shut6 =>
  (m_do_hold_together n1 (List.map (fun (x7 : (Int × (Int × Int))) => x7.2) (List.filter (fun (x7 : (Int × (Int × Int))) => (!(decide (x7.1 ∈ shut6)))) (enumI roads2)))).bind fun t8 =>
  some t8
def m_do_turns_hold (n1 : Int) (roads2 : (List (Int × Int))) (k3 : Int) (turns4 : (List Int)) : Option Bool :=
  (orO (some (!(decide (((List.length turns4 : Nat) : Int) = ((List.length roads2 : Nat) : Int))))) ((quantM true (fun (x5 : Int) => (some (some ((decide ((0 : Int) ≤ x5)) && (decide (x5 < k3)))))) turns4).bind fun t6 => (some (!t6)))).bind fun t7 =>
  if t7 = true then (some false)
  else (rngO 0 k3).bind fun r8 =>
  (quantM true (fun (x9 : Int) => ((m_does_day_hold n1 roads2 turns4 x9).bind fun t10 => (some (some t10)))) r8).bind fun t11 =>
  some t11
def m_is_splitting (n1 : Int) (splitting2 : (List Int)) : Option Bool :=
  if (!(decide (((List.length splitting2 : Nat) : Int) = n1))) = true then (some false)
  else (quantM true (fun (x3 : (Int × Int)) => ((catO [(-(1 : Int))] (cut splitting2 none (some x3.1))).bind fun t4 => ((List.max? t4).bind fun t5 => (some (some ((decide ((0 : Int) ≤ x3.2)) && (decide (x3.2 ≤ (t5 + (1 : Int)))))))))) (enumI splitting2)).bind fun t6 =>
  some t6
def m_is_rift (n1 : Int) (roads2 : (List (Int × Int))) (k3 : Int) (splitting4 : (List Int)) : Option Bool :=
  (orO ((m_is_splitting n1 splitting4).bind fun t5 => (some (!t5))) ((List.max? splitting4).bind fun t6 => (some (decide (t6 = (0 : Int)))))).bind fun t7 =>
  if t7 = true then (some false)
  else (compM (fun (x8 : (Int × Int)) => ((atI splitting4 x8.1).bind fun t9 => ((atI splitting4 x8.2).bind fun t10 => (if (!(decide (t9 = t10))) = true then (some (1 : Int)).bind (fun y => some (some y)) else some none)))) roads2).bind fun between12 =>
  (List.max? splitting4).bind fun t13 =>
  (mulO k3 t13).bind fun t14 =>
  (mulO (k3 - (1 : Int)) ((List.length between12 : Nat) : Int)).bind fun t15 =>
  some (decide (t15 < t14))
def m_all_splittings (n1 : Int) : Option (List (List Int)) :=
  (some [([] : List Int)]).bind fun found2 =>
  (rngO 0 n1).bind fun r3 =>
  (List.foldlM (fun (s4 : ((List (List Int)))) (x5 : Int) =>
  (lc2M (fun (x6 : (List Int)) => ((catO [(-(1 : Int))] x6).bind fun t8 => ((List.max? t8).bind fun t9 => ((rngO 0 (t9 + (2 : Int))).bind fun r10 => (some r10))))) (fun (x6 : (List Int)) (x7 : Int) => ((catO x6 [x7]).bind fun t11 => (some (some t11)))) s4).bind fun found12 =>
  some (found12)) ((found2) : ((List (List Int)))) r3).bind fun (s4 : ((List (List Int)))) =>
  some s4
def m_told_rift (n1 : Int) (roads2 : (List (Int × Int))) (k3 : Int) : Option (Option (List Int)) :=
  (m_all_splittings n1).bind fun t4 =>
  (foldR (ρ := (Option (List Int))) (β := Unit) (fun (s5 : Unit) (x6 : (List Int)) =>
  (m_is_rift n1 roads2 k3 x6).bind fun t7 =>
  if t7 = true then (some (.ret (some x6)))
  else some (.nx ())) (() : Unit) t4).bind (Res.elim id fun (s5 : Unit) =>
  some none)
def m_told_turns (n1 : Int) (roads2 : (List (Int × Int))) (k3 : Int) : Option (Option (List Int)) :=
  (m_told_rift n1 roads2 k3).bind fun t4 =>
  if (!(isN ((eO (eT eI)) t4))) = true then (some none)
  else (some [([] : List Int)]).bind fun waiting5 =>
  (whileR (ρ := (Option (List Int))) (β := ((List (List Int)))) (fun (s6 : ((List (List Int)))) => (some (!s6.isEmpty))) (fun (s6 : ((List (List Int)))) =>
  (popO s6).bind fun p7 =>
  if (decide (((List.length p7.1 : Nat) : Int) = ((List.length roads2 : Nat) : Int))) = true then (some (.ret (some p7.1)))
  else (rng3O (k3 - (1 : Int)) (-(1 : Int)) (-(1 : Int))).bind fun r8 =>
  (List.foldlM (fun (s9 : ((List (List Int)))) (x10 : Int) =>
  (catO p7.1 [x10]).bind fun t11 =>
  (m_does_day_hold n1 roads2 t11 x10).bind fun t12 =>
  (if t12 = true then ((catO p7.1 [x10]).bind fun t16 =>
  (appO s9 t16).bind fun waiting17 =>
  some (waiting17))
  else (some (s9))).bind fun (j15 : ((List (List Int)))) =>
  some (j15)) ((p7.2) : ((List (List Int)))) r8).bind fun (s9 : ((List (List Int)))) =>
  some (.nx (s9))) 100000 ((waiting5) : ((List (List Int))))).bind (Res.elim id fun (s6 : ((List (List Int)))) =>
  some none)
def m__law_cell (script1 : (List Int)) (k2 : Int) : Option Int :=
  if (decide (k2 < ((List.length script1 : Nat) : Int))) = true then ((atI script1 k2).bind fun t3 =>
  some t3)
  else some (((5 : Int) * k2) + (3 : Int))
def m__law_draws (cell1 : Int) (count2 : Int) : Option (List Int) :=
  (some ((Int.natAbs cell1 : Nat) : Int)).bind fun rest3 =>
  (some (decide ((1000000000000000000 : Int) ≤ rest3))).bind fun digits4 =>
  (some rest3).bind fun seed5 =>
  (some ([] : List Int)).bind fun draws6 =>
  (rngO 0 count2).bind fun r7 =>
  (List.foldlM (fun (s8 : (Int × (List Int))) (x9 : Int) =>
  (if (digits4 && (decide ((0 : Int) < s8.1))) = true then ((appO s8.2 (s8.1 % (5040 : Int))).bind fun draws17 =>
  (some (s8.1 / (5040 : Int))).bind fun rest18 =>
  some (rest18, draws17))
  else ((some ((((seed5 * (48271 : Int)) + ((x9 + (1 : Int)) * (69621 : Int))) + (11 : Int)) % (2147483647 : Int))).bind fun mixed19 =>
  (mulO mixed19 mixed19).bind fun t20 =>
  (some ((t20 + ((40692 : Int) * (x9 + (3 : Int)))) % (2147483399 : Int))).bind fun mixed21 =>
  (appO s8.2 ((mixed21 / (64 : Int)) % (5040 : Int))).bind fun draws22 =>
  some (s8.1, draws22))).bind fun (j16 : (Int × (List Int))) =>
  some (j16.1, j16.2)) ((rest3, draws6) : (Int × (List Int))) r7).bind fun (s8 : (Int × (List Int))) =>
  some s8.2
def m__law_is_integer (value1 : PyData) : Option Bool :=
  some ((isInst "int" (eD value1)) && (!(isInst "bool" (eD value1))))
def m__law_bent (row1 : (List Int)) (draws2 : (List Int)) (most3 : Int) : Option (List Int) :=
  (atI draws2 (0 : Int)).bind fun t4 =>
  (some (t4 % (6 : Int))).bind fun way5 =>
  (atI draws2 (1 : Int)).bind fun t6 =>
  (modO t6 (((List.length row1 : Nat) : Int) + (1 : Int))).bind fun at8 =>
  (atI draws2 (2 : Int)).bind fun t9 =>
  (modO t9 (most3 + (3 : Int))).bind fun t10 =>
  (atI draws2 (2 : Int)).bind fun t11 =>
  (atI [(t10 - (1 : Int)), (100000000000000000000 : Int), ((0 : Int) - (1 : Int))] (((t11 / (60 : Int)) % (14 : Int)) / (6 : Int))).bind fun odd13 =>
  if (decide (way5 = (0 : Int))) = true then ((catO (cut row1 none (some at8)) (cut row1 (some (at8 + (1 : Int))) none)).bind fun t14 =>
  some t14)
  else if (decide (way5 = (1 : Int))) = true then ((catO (cut row1 none (some at8)) [odd13]).bind fun t15 =>
  (catO t15 (cut row1 (some at8) none)).bind fun t16 =>
  some t16)
  else if (decide (way5 < (4 : Int))) = true then ((catO (cut row1 none (some at8)) [odd13]).bind fun t17 =>
  (catO t17 (cut row1 (some (at8 + (1 : Int))) none)).bind fun t18 =>
  some t18)
  else (if (decide (way5 = (4 : Int))) = true then (some (List.reverse row1)) else ((catO (cut row1 none (some at8)) (cut row1 (some (max (0 : Int) (at8 - (1 : Int)))) none)).bind fun t19 => (some t19))).bind fun t20 =>
  some t20
def m__law_together (n1 : Int) (roads2 : (List (Int × Int))) : Option Bool :=
  (rngO 0 n1).bind fun r3 =>
  (some (List.map (fun (x4 : Int) => x4) r3)).bind fun marks5 =>
  (List.foldlM (fun (s6 : ((List Int))) (x7 : (Int × Int)) =>
  (atI s6 x7.1).bind fun t8 =>
  (atI s6 x7.2).bind fun t9 =>
  (some (min t8 t9)).bind fun low10 =>
  (atI s6 x7.1).bind fun t11 =>
  (atI s6 x7.2).bind fun t12 =>
  (some (max t11 t12)).bind fun high13 =>
  (some (List.map (fun (x14 : Int) => (if (decide (x14 = high13)) = true then low10 else x14)) s6)).bind fun marks15 =>
  some (marks15)) ((marks5) : ((List Int))) roads2).bind fun (s6 : ((List Int))) =>
  (List.max? s6).bind fun t16 =>
  some (decide (t16 = (0 : Int)))
def m__law_hold (n1 : Int) (roads2 : (List (Int × Int))) (k3 : Int) (turns4 : (List Int)) : Option Bool :=
  if ((!(decide (((List.length turns4 : Nat) : Int) = ((List.length roads2 : Nat) : Int)))) || (decide ((0 : Int) < ((List.length (List.map (fun (x5 : Int) => x5) (List.filter (fun (x5 : Int) => ((decide (x5 < (0 : Int))) || (decide (k3 ≤ x5)))) turns4)) : Nat) : Int)))) = true then (some false)
  else (rngO 0 k3).bind fun r6 =>
  (foldR (ρ := Bool) (β := Unit) (fun (s7 : Unit) (x8 : Int) =>
  (rngO 0 ((List.length roads2 : Nat) : Int)).bind fun r9 =>
  (compM (fun (x10 : Int) => ((atI turns4 x10).bind fun t11 => (if (!(decide (t11 = x8))) = true then ((atI roads2 x10).bind fun t12 => (some t12)).bind (fun y => some (some y)) else some none))) r9).bind fun l13 =>
  (m__law_together n1 l13).bind fun t14 =>
  if (!t14) = true then (some (.ret false))
  else some (.nx ())) (() : Unit) r6).bind (Res.elim id fun (s7 : Unit) =>
  some true)
def m__law_hold_v2 (n1 : Int) (roads2 : (List (Int × Int))) (k3 : Int) (turns4 : (List Int)) : Option Bool :=
  if ((!(decide (((List.length turns4 : Nat) : Int) = ((List.length roads2 : Nat) : Int)))) || (decide ((0 : Int) < ((List.length (List.map (fun (x5 : Int) => x5) (List.filter (fun (x5 : Int) => ((decide (x5 < (0 : Int))) || (decide (k3 ≤ x5)))) turns4)) : Nat) : Int)))) = true then (some false)
  else (rngO 0 k3).bind fun r6 =>
  (foldR (ρ := Bool) (β := Unit) (fun (s7 : Unit) (x8 : Int) =>
  (rngO 0 ((List.length roads2 : Nat) : Int)).bind fun r9 =>
  (compM (fun (x10 : Int) => ((atI turns4 x10).bind fun t11 => (if (!(decide (t11 = x8))) = true then ((atI roads2 x10).bind fun t12 => (some t12)).bind (fun y => some (some y)) else some none))) r9).bind fun l13 =>
  (m__law_together n1 l13).bind fun t14 =>
  if (!t14) = true then (some (.ret false))
  else some (.nx ())) (() : Unit) r6).bind (Res.elim id fun (s7 : Unit) =>
  some true)
def m__law_least_turns (n1 : Int) (roads2 : (List (Int × Int))) (k3 : Int) : Option (Option (List Int)) :=
  (repO (0 : Int) ((List.length roads2 : Nat) : Int)).bind fun turns5 =>
  (rngO 0 (729 : Int)).bind fun r6 =>
  (foldR (ρ := (Option (List Int))) (β := ((List Int))) (fun (s7 : ((List Int))) (x8 : Int) =>
  (some x8).bind fun rest9 =>
  (rngO 0 ((List.length roads2 : Nat) : Int)).bind fun r10 =>
  (List.foldlM (fun (s11 : ((List Int) × Int)) (x12 : Int) =>
  (modO s11.2 k3).bind fun t13 =>
  (setO s11.1 ((((List.length roads2 : Nat) : Int) - (1 : Int)) - x12) t13).bind fun turns14 =>
  (fdivO s11.2 k3).bind fun rest16 =>
  some (turns14, rest16)) ((s7, rest9) : ((List Int) × Int)) r10).bind fun (s11 : ((List Int) × Int)) =>
  if (decide ((0 : Int) < s11.2)) = true then (some (.ret none))
  else (m__law_hold_v2 n1 roads2 k3 s11.1).bind fun t17 =>
  if t17 = true then (some (.ret (some s11.1)))
  else some (.nx (s11.1))) ((turns5) : ((List Int))) r6).bind (Res.elim id fun (s7 : ((List Int))) =>
  some none)
def m__law_splittings (n1 : Int) : Option (List (List Int)) :=
  (some [([] : List Int)]).bind fun every2 =>
  (rngO 0 n1).bind fun r3 =>
  (List.foldlM (fun (s4 : ((List (List Int)))) (x5 : Int) =>
  (some ([] : List (List Int))).bind fun longer6 =>
  (List.foldlM (fun (s7 : ((List (List Int)))) (x8 : (List Int)) =>
  (if (decide ((0 : Int) < ((List.length x8 : Nat) : Int))) = true then ((List.max? x8).bind fun t9 => (some (t9 + (1 : Int)))) else (some (0 : Int))).bind fun most11 =>
  (rngO 0 (most11 + (1 : Int))).bind fun r12 =>
  (compM (fun (x13 : Int) => ((catO x8 [x13]).bind fun t14 => (some (some t14)))) r12).bind fun l15 =>
  (catO s7 l15).bind fun longer17 =>
  some (longer17)) ((longer6) : ((List (List Int)))) s4).bind fun (s7 : ((List (List Int)))) =>
  (some s7).bind fun every18 =>
  some (every18)) ((every2) : ((List (List Int)))) r3).bind fun (s4 : ((List (List Int)))) =>
  some s4
def m__law_rift (every1 : (List (List Int))) (roads2 : (List (Int × Int))) (k3 : Int) (splitting4 : (List Int)) : Option Bool :=
  (orO (some (!(memB splitting4 every1))) ((List.max? splitting4).bind fun t5 => (some (decide (t5 = (0 : Int)))))).bind fun t6 =>
  if t6 = true then (some false)
  else (compM (fun (x7 : (Int × Int)) => ((atI splitting4 x7.1).bind fun t8 => ((atI splitting4 x7.2).bind fun t9 => (if (!(decide (t8 = t9))) = true then (some x7).bind (fun y => some (some y)) else some none)))) roads2).bind fun between11 =>
  (List.max? splitting4).bind fun t12 =>
  (mulO k3 t12).bind fun t13 =>
  (mulO (k3 - (1 : Int)) ((List.length between11 : Nat) : Int)).bind fun t14 =>
  some (decide (t14 < t13))
def m__law_roads (draws1 : (List Int)) (n2 : Int) (trees3 : Int) : Option (List (Int × Int)) :=
  (some ([] : List (Int × Int))).bind fun roads4 =>
  (mulO trees3 (n2 - (1 : Int))).bind fun t5 =>
  (rngO 0 t5).bind fun r6 =>
  (List.foldlM (fun (s7 : ((List (Int × Int)))) (x8 : Int) =>
  (fdivO x8 trees3).bind fun t9 =>
  (some (t9 + (1 : Int))).bind fun b10 =>
  (atI draws1 x8).bind fun t11 =>
  (modO t11 b10).bind fun t12 =>
  (appO s7 (t12, b10)).bind fun roads13 =>
  some (roads13)) ((roads4) : ((List (Int × Int)))) r6).bind fun (s7 : ((List (Int × Int)))) =>
  (if (decide ((1 : Int) < n2)) = true then ((atI draws1 (6 : Int)).bind fun t14 => ((modO t14 ((7 : Int) - ((List.length s7 : Nat) : Int))).bind fun t15 => (some t15))) else (some (0 : Int))).bind fun t16 =>
  (rngO 0 t16).bind fun r17 =>
  (List.foldlM (fun (s18 : ((List (Int × Int)))) (x19 : Int) =>
  (atI draws1 ((7 : Int) + x19)).bind fun one21 =>
  (modO one21 n2).bind fun a23 =>
  (modO (one21 / (4 : Int)) (n2 - (1 : Int))).bind fun t24 =>
  (modO ((a23 + (1 : Int)) + t24) n2).bind fun b26 =>
  (appO s18 ((min a23 b26), (max a23 b26))).bind fun roads27 =>
  some (roads27)) ((s7) : ((List (Int × Int)))) r17).bind fun (s18 : ((List (Int × Int)))) =>
  (atI draws1 (13 : Int)).bind fun t28 =>
  (modO t28 (((List.length s18 : Nat) : Int) + (1 : Int))).bind fun moved30 =>
  (catO (cut s18 (some moved30) none) (cut s18 none (some moved30))).bind fun t31 =>
  some t31
def m_law (script1 : (List Int)) : Option Bool :=
  (rngO 0 (3 : Int)).bind fun r2 =>
  (foldR (ρ := Bool) (β := Unit) (fun (s3 : Unit) (x4 : Int) =>
  (m__law_cell script1 x4).bind fun t5 =>
  (m__law_draws t5 (60 : Int)).bind fun draws7 =>
  (atI draws7 (0 : Int)).bind fun t8 =>
  (atI draws7 (0 : Int)).bind fun t9 =>
  (atI draws7 (0 : Int)).bind fun t10 =>
  (atI [((1 : Int) + (t8 % (4 : Int))), ((2 : Int) + (t9 % (3 : Int))), ((3 : Int) + (t10 % (2 : Int)))] x4).bind fun n12 =>
  (atI draws7 (1 : Int)).bind fun t13 =>
  (atI draws7 (1 : Int)).bind fun t14 =>
  (atI [(2 : Int), ((1 : Int) + (t13 % (3 : Int))), ((2 : Int) + (t14 % (2 : Int)))] x4).bind fun k16 =>
  (atI [(2 : Int), (0 : Int), (1 : Int)] x4).bind fun t17 =>
  (m__law_roads (cut draws7 (some (2 : Int)) (some (20 : Int))) n12 t17).bind fun roads19 =>
  (m__law_splittings n12).bind fun every21 =>
  (compM (fun (x22 : (List Int)) => ((m__law_rift every21 roads19 k16 x22).bind fun t23 => (if t23 = true then (some x22).bind (fun y => some (some y)) else some none))) every21).bind fun rifts25 =>
  (m__law_least_turns n12 roads19 k16).bind fun due27 =>
  if ((!(decide ((isN ((eO (eT eI)) due27)) = (decide ((0 : Int) < ((List.length rifts25 : Nat) : Int)))))) || ((decide (x4 = (0 : Int))) && (isN ((eO (eT eI)) due27)))) = true then (some (.ret false))
  else (m_told_turns n12 roads19 k16).bind fun t28 =>
  (m__law_is ((eO (eT eI)) t28) ((eO (eT eI)) due27)).bind fun t29 =>
  if (!t29) = true then (some (.ret false))
  else (m_told_rift n12 roads19 k16).bind fun t30 =>
  (if (decide ((0 : Int) < ((List.length rifts25 : Nat) : Int))) = true then ((atI rifts25 (0 : Int)).bind fun t31 => (some (some t31))) else (some none)).bind fun t32 =>
  (m__law_is ((eO (eT eI)) t30) ((eO (eT eI)) t32)).bind fun t33 =>
  if (!t33) = true then (some (.ret false))
  else (andO (some (decide ((1 : Int) < n12))) ((orO ((m_told_turns n12 (cut roads19 none (some (n12 - (2 : Int)))) k16).bind fun t34 => (some (!(isN ((eO (eT eI)) t34))))) ((m_told_rift n12 (cut roads19 none (some (n12 - (2 : Int)))) k16).bind fun t35 => (some (isN ((eO (eT eI)) t35))))).bind fun t36 => (some t36))).bind fun t37 =>
  if t37 = true then (some (.ret false))
  else (rngO 0 (6 : Int)).bind fun r38 =>
  (foldR (ρ := Bool) (β := Unit) (fun (s39 : Unit) (x40 : Int) =>
  (if (!(isN ((eO (eT eI)) due27))) = true then (due27.bind fun t46 => (some t46)) else ((rngO 0 ((List.length roads19 : Nat) : Int)).bind fun r41 => ((compM (fun (x42 : Int) => ((atI draws7 ((20 : Int) + x42)).bind fun t43 => ((modO t43 k16).bind fun t44 => (some (some t44))))) r41).bind fun l45 => (some l45)))).bind fun base48 =>
  (if (decide (x40 = (0 : Int))) = true then (some base48) else ((m__law_bent base48 (cut draws7 (some ((26 : Int) + ((3 : Int) * x40))) (some ((29 : Int) + ((3 : Int) * x40)))) k16).bind fun t49 => (some t49))).bind fun asked51 =>
  (m_do_turns_hold n12 roads19 k16 asked51).bind fun t52 =>
  (m__law_hold n12 roads19 k16 asked51).bind fun t53 =>
  (m__law_is (eB t52) (eB t53)).bind fun t54 =>
  if (!t54) = true then (some (.ret false))
  else (atI draws7 ((44 : Int) + x40)).bind fun t55 =>
  (modO t55 ((List.length every21 : Nat) : Int)).bind fun t56 =>
  (atI every21 t56).bind fun one58 =>
  (if (decide (x40 < (3 : Int))) = true then (some one58) else ((m__law_bent one58 (cut draws7 (some ((48 : Int) + x40)) (some ((51 : Int) + x40))) n12).bind fun t59 => (some t59))).bind fun one61 =>
  (m_is_rift n12 roads19 k16 one61).bind fun t62 =>
  (m__law_rift every21 roads19 k16 one61).bind fun t63 =>
  (m__law_is (eB t62) (eB t63)).bind fun t64 =>
  if (!t64) = true then (some (.ret false))
  else some (.nx ())) (() : Unit) r38).bind (Res.elim .ret fun (s39 : Unit) =>
  some (.nx ()))) (() : Unit) r2).bind (Res.elim id fun (s3 : Unit) =>
  some true)
end K74

set_option autoImplicit false
set_option Elab.async false
set_option linter.all false
set_option maxRecDepth 100000
set_option maxHeartbeats 4000000
namespace K74
open SM PySem PySem.Spec L2
theorem cell_ok (script : List Int) {k : Int} (h : 0 ≤ k) : ∃ c, m__law_cell script k = some c := by
  unfold m__law_cell
  split
  · rename_i hc
    obtain ⟨x, h1, _⟩ := atI_lt (xs := script) h (of_decide_eq_true hc)
    exact ⟨x, by rw [h1]; rfl⟩
  · exact ⟨_, rfl⟩
theorem draws_ok (cell : Int) {n : Int} (h0 : 0 ≤ n) (h1 : n ≤ 1000) : ∃ ds, m__law_draws cell n = some ds ∧ (ds.length : Int) = n ∧ ∀ d ∈ ds, 0 ≤ d ∧ d < 5040 := by
  obtain ⟨k, rfl⟩ := Int.eq_ofNat_of_zero_le h0
  unfold m__law_draws
  refine ex_bind rfl (ex_bind rfl (ex_bind rfl (ex_bind rfl (ex_bind (rngO_eq (by omega)) ?_))))
  refine ex_fold_rng (fun j t => t.2.length = j ∧ ∀ d ∈ t.2, 0 ≤ d ∧ d < 5040) ⟨rfl, fun d hd => by cases hd⟩ ?_ fun t ⟨hl, hr⟩ => ⟨_, rfl, by rw [hl], hr⟩
  · rintro j t hj ⟨hl, hr⟩
    have app : ∀ x : Int, 0 ≤ x → x < 5040 → (t.2 ++ [x]).length = j + 1 ∧ ∀ d ∈ t.2 ++ [x], 0 ≤ d ∧ d < 5040 := fun x a b => ⟨by rw [List.length_append, hl]; rfl, fun d hd => by
      rcases List.mem_append.mp hd with h | h
      · exact hr d h
      · rw [List.mem_singleton.mp h]; exact ⟨a, b⟩⟩
    have cond : ∀ (c : Bool) (a b : Option (Int × List Int)) (g : Int × List Int → Option (Int × List Int)), (∀ t', g t' = some t') → (∃ t', a = some t' ∧ t'.2.length = j + 1 ∧ ∀ d ∈ t'.2, 0 ≤ d ∧ d < 5040) → (∃ t', b = some t' ∧ t'.2.length = j + 1 ∧ ∀ d ∈ t'.2, 0 ≤ d ∧ d < 5040) → ∃ t', (if c = true then a else b).bind g = some t' ∧ t'.2.length = j + 1 ∧ ∀ d ∈ t'.2, 0 ≤ d ∧ d < 5040 := by
      intro c a b g hg ha hb
      cases c with
      | true => obtain ⟨t', e, h⟩ := ha; exact ⟨t', by rw [if_pos rfl, e]; exact hg t', h⟩
      | false => obtain ⟨t', e, h⟩ := hb; exact ⟨t', by rw [if_neg Bool.false_ne_true, e]; exact hg t', h⟩
    refine cond _ _ _ _ (fun t' => rfl) ?_ ?_
    · refine ex_bind (appO_eq (by omega)) (ex_bind rfl ⟨_, rfl, app _ (Int.emod_nonneg _ (by decide)) (Int.emod_lt_of_pos _ (by decide))⟩)
    · refine ex_bind rfl (ex_bind (mulO_eq (.inl ?_)) (ex_bind rfl (ex_bind (appO_eq (by omega)) ⟨_, rfl, app _ (Int.emod_nonneg _ (by decide)) (Int.emod_lt_of_pos _ (by decide))⟩)))
      have a := Int.emod_nonneg ((((cell.natAbs : Nat) : Int) * 48271 + (((j : Nat) : Int) + 1) * 69621) + 11) (b := 2147483647) (by decide)
      have b := Int.emod_lt_of_pos ((((cell.natAbs : Nat) : Int) * 48271 + (((j : Nat) : Int) + 1) * 69621) + 11) (b := 2147483647) (by decide)
      exact ⟨Int.lt_of_lt_of_le (by decide) a, Int.lt_trans b (by decide)⟩
/-- a row of draws -/
structure Dr (ds : List Int) (n : Int) : Prop where
  len : (ds.length : Int) = n
  rng : ∀ d ∈ ds, 0 ≤ d ∧ d < 5040
theorem Dr.at {ds : List Int} {n i : Int} (h : Dr ds n) (h0 : 0 ≤ i) (h1 : i < n) : ∃ d, atI ds i = some d ∧ 0 ≤ d ∧ d < 5040 := by
  obtain ⟨x, e, m, _⟩ := atI_lt (xs := ds) h0 (by rw [h.len]; exact h1)
  exact ⟨x, e, h.rng x m⟩
theorem Dr.cut {ds : List Int} {n i j : Int} (h : Dr ds n) (h0 : 0 ≤ i) (h1 : i ≤ j) (h2 : j ≤ n) : Dr (SM.cut ds (some i) (some j)) (j - i) := by
  have hl := h.len
  rw [cut_mid h0 (by omega)]
  refine ⟨?_, fun d hd => h.rng d (List.mem_of_mem_drop (List.mem_of_mem_take hd))⟩
  rw [List.length_take, List.length_drop]
  omega
theorem draws_dr (cell : Int) {n : Int} (h0 : 0 ≤ n) (h1 : n ≤ 1000) : ∃ ds, m__law_draws cell n = some ds ∧ Dr ds n := by
  obtain ⟨ds, e, a, b⟩ := draws_ok cell h0 h1
  exact ⟨ds, e, a, b⟩
theorem bent_ok {row ds : List Int} {most n : Int} (hr : row.length ≤ 1000) (hd : Dr ds n) (hn : 3 ≤ n) (hm : 0 ≤ most) : ∃ r, m__law_bent row ds most = some r ∧ r.length ≤ row.length + 1 + row.length := by
  obtain ⟨d0, e0, a0, b0⟩ := hd.at (i := 0) (by omega) (by omega)
  obtain ⟨d1, e1, a1, b1⟩ := hd.at (i := 1) (by omega) (by omega)
  obtain ⟨d2, e2, a2, b2⟩ := hd.at (i := 2) (by omega) (by omega)
  unfold m__law_bent
  refine ex_bind e0 (ex_bind rfl (ex_bind e1 (ex_bind (modO_eq (by omega)) (ex_bind e2 (ex_bind (modO_eq (by omega)) (ex_bind e2 ?_))))))
  have q1 : 0 ≤ d2 / 60 := Int.ediv_nonneg a2 (by decide)
  have q2 := Int.emod_nonneg (d2 / 60) (b := 14) (by decide)
  have q3 := Int.emod_lt_of_pos (d2 / 60) (b := 14) (by decide)
  obtain ⟨x, e, _, _⟩ := atI_lt (xs := [(d2 % (most + 3) - 1), (100000000000000000000 : Int), ((0 : Int) - (1 : Int))]) (i := d2 / 60 % 14 / 6) (Int.ediv_nonneg q2 (by decide)) (by show d2 / 60 % 14 / 6 < 3; omega)
  refine ex_bind e ?_
  have c1 : ∀ l u, (SM.cut row l u).length ≤ row.length := fun l u => cut_len
  split
  · exact ex_bind (catO_eq (by have := c1 none (some (d1 % ((row.length : Int) + 1))); have := c1 (some (d1 % ((row.length : Int) + 1) + 1)) none; omega)) ⟨_, rfl, by rw [List.length_append]; have := c1 none (some (d1 % ((row.length : Int) + 1))); have := c1 (some (d1 % ((row.length : Int) + 1) + 1)) none; omega⟩
  split
  · refine ex_bind (catO_eq (by have := c1 none (some (d1 % ((row.length : Int) + 1))); simp only [List.length_cons, List.length_nil]; omega)) (ex_bind (catO_eq ?_) ⟨_, rfl, ?_⟩)
    all_goals (have := c1 none (some (d1 % ((row.length : Int) + 1))); have := c1 (some (d1 % ((row.length : Int) + 1))) none; simp only [List.length_append, List.length_cons, List.length_nil]; omega)
  split
  · refine ex_bind (catO_eq (by have := c1 none (some (d1 % ((row.length : Int) + 1))); simp only [List.length_cons, List.length_nil]; omega)) (ex_bind (catO_eq ?_) ⟨_, rfl, ?_⟩)
    all_goals (have := c1 none (some (d1 % ((row.length : Int) + 1))); have := c1 (some (d1 % ((row.length : Int) + 1) + 1)) none; simp only [List.length_append, List.length_cons, List.length_nil]; omega)
  split
  · exact ex_bind rfl ⟨_, rfl, by rw [List.length_reverse]; omega⟩
  · refine ex_bind (x := SM.cut row none (some (d1 % ((row.length : Int) + 1))) ++ SM.cut row (some (max 0 (d1 % ((row.length : Int) + 1) - 1))) none) ?_ ⟨_, rfl, ?_⟩
    · rw [catO_eq]
      · rfl
      · have := c1 none (some (d1 % ((row.length : Int) + 1))); have := c1 (some (max 0 (d1 % ((row.length : Int) + 1) - 1))) none; omega
    · rw [List.length_append]; have := c1 none (some (d1 % ((row.length : Int) + 1))); have := c1 (some (max 0 (d1 % ((row.length : Int) + 1) - 1))) none; omega
/-! ### plain tools -/
theorem filterMap_if {α : Type} {p : α → Bool} : ∀ {xs : List α}, xs.filterMap (fun x => if p x = true then some x else none) = xs.filter p
  | [] => rfl
  | x :: xs => by
    rw [List.filterMap_cons, List.filter_cons]
    cases p x with
    | true => simp [filterMap_if]
    | false => simp [filterMap_if]
theorem foldR_congr {τ ρ β : Type} {f g : β → τ → Option (Res ρ β)} : ∀ {xs : List τ} {t : β}, (∀ t, ∀ x ∈ xs, f t x = g t x) → foldR f t xs = foldR g t xs
  | [], _, _ => rfl
  | x :: xs, t, h => by
    unfold foldR
    rw [h t x List.mem_cons_self]
    cases g t x with
    | none => rfl
    | some r =>
      cases r with
      | ret r => rfl
      | nx u => exact foldR_congr (xs := xs) (t := u) fun t y hy => h t y (List.mem_cons_of_mem _ hy)
theorem flatM_ok {α κ : Type} {g : α → Option (List κ)} {r : α → List κ} : ∀ {xs : List α}, (∀ x ∈ xs, g x = some (r x)) → flatM g xs = some (xs.flatMap r)
  | [], _ => rfl
  | x :: xs, h => by
    unfold flatM
    rw [h x List.mem_cons_self, flatM_ok fun y hy => h y (List.mem_cons_of_mem _ hy)]
    rfl
theorem lc2M_ok {α β κ : Type} {gi : α → Option (List β)} {f : α → β → Option (Option κ)} {ys : α → List β} {g : α → β → κ} {xs : List α} (h1 : ∀ x ∈ xs, gi x = some (ys x)) (h2 : ∀ x ∈ xs, ∀ y ∈ ys x, f x y = some (some (g x y))) (hl : (xs.flatMap fun x => (ys x).map (g x)).length ≤ 16777216) :
    lc2M gi f xs = some (xs.flatMap fun x => (ys x).map (g x)) := by
  have : ∀ xs : List α, (∀ x ∈ xs, gi x = some (ys x)) → (∀ x ∈ xs, ∀ y ∈ ys x, f x y = some (some (g x y))) → comp2M gi f xs = some (xs.flatMap fun x => (ys x).map (g x)) := by
    intro xs
    induction xs with
    | nil => intro _ _; rfl
    | cons x xs ih =>
      intro h1 h2
      unfold comp2M
      rw [h1 x List.mem_cons_self]
      show (compM (f x) (ys x)).bind _ = _
      rw [compM_get' (g := g x) (h2 x List.mem_cons_self), ih (fun y hy => h1 y (List.mem_cons_of_mem _ hy)) fun y hy => h2 y (List.mem_cons_of_mem _ hy)]
      rfl
  unfold lc2M
  rw [this xs h1 h2]
  show (if _ then _ else _) = _
  rw [if_pos hl]
theorem fold_cat {α κ : Type} {f : List κ → α → Option (List κ)} {r : α → List κ} {B : Nat} : ∀ {xs : List α} {s : List κ}, (∀ (s : List κ), ∀ x ∈ xs, s.length ≤ B → f s x = some (s ++ r x)) → s.length + (xs.flatMap r).length ≤ B → xs.foldlM f s = some (s ++ xs.flatMap r)
  | [], s, _, _ => by simp
  | x :: xs, s, h, hl => by
    rw [List.flatMap_cons, List.length_append] at hl
    rw [List.foldlM_cons, h s x List.mem_cons_self (by omega)]
    show xs.foldlM f (s ++ r x) = _
    rw [fold_cat (fun t y hy => h t y (List.mem_cons_of_mem _ hy)) (by rw [List.length_append]; omega), List.flatMap_cons, List.append_assoc]
theorem flatMap_len {α κ : Type} {r : α → List κ} {k : Nat} : ∀ {xs : List α}, (∀ x ∈ xs, (r x).length ≤ k) → (xs.flatMap r).length ≤ k * xs.length
  | [], _ => by simp
  | x :: xs, h => by
    have := flatMap_len (r := r) (k := k) (xs := xs) fun y hy => h y (List.mem_cons_of_mem _ hy)
    have hx := h x List.mem_cons_self
    rw [List.flatMap_cons, List.length_append, List.length_cons, Nat.mul_add]
    omega
/-! ### plain tools: enumerate, places -/
theorem fm_cong {α β : Type} {f g : α → Option β} : ∀ {xs : List α}, (∀ x ∈ xs, f x = g x) → xs.filterMap f = xs.filterMap g
  | [], _ => rfl
  | x :: xs, h => by
    rw [List.filterMap_cons, List.filterMap_cons, h x List.mem_cons_self, fm_cong fun y hy => h y (List.mem_cons_of_mem _ hy)]
theorem rng_lt (lo hi : Int) : (rng lo hi).Pairwise (· < ·) := by
  unfold rng
  rw [List.pairwise_map]
  exact List.pairwise_lt_range.imp fun h => by omega
theorem enumI_rng {α : Type} (xs : List α) : enumI xs = (rng 0 (xs.length : Int)).filterMap fun i => (atI xs i).map fun x => (i, x) := by
  rw [rng_nat, List.filterMap_map]
  unfold enumI
  refine List.ext_getElem? fun k => ?_
  have e : (List.range xs.length).filterMap ((fun i => (atI xs i).map fun x => (i, x)) ∘ fun (k : Nat) => (k : Int)) = (List.range xs.length).filterMap (fun (k : Nat) => xs[k]?.map fun x => ((k : Int), x)) :=
    fm_cong fun i hi => by show (atI xs (i : Int)).map _ = _; rw [atI_n]
  rw [e]
  have e2 : (List.range xs.length).filterMap (fun (k : Nat) => xs[k]?.map fun x => ((k : Int), x)) = xs.mapIdx fun i x => ((i : Int), x) := by
    rw [List.mapIdx_eq_zipIdx_map]
    have : ∀ (ys : List α) (n : Nat), (List.range' n ys.length).filterMap (fun (k : Nat) => ys[k - n]?.map fun x => ((k : Int), x)) = (ys.zipIdx n).map fun p => ((p.2 : Int), p.1) := by
      intro ys
      induction ys with
      | nil => intro n; rfl
      | cons y ys ih =>
        intro n
        rw [List.length_cons, List.range'_succ, List.filterMap_cons]
        have h0 : (y :: ys)[n - n]? = some y := by simp
        rw [h0]
        dsimp only [Option.map_some]
        rw [List.zipIdx_cons, List.map_cons, ← ih (n + 1)]
        congr 1
        refine fm_cong fun k hk => ?_
        have hk := List.mem_range'_1.mp hk
        obtain ⟨d, rfl⟩ : ∃ d, k = n + 1 + d := ⟨k - (n + 1), by omega⟩
        have e1 : n + 1 + d - n = d + 1 := by omega
        have e2 : n + 1 + d - (n + 1) = d := by omega
        rw [e1, e2, List.getElem?_cons_succ]
    have t := this xs 0
    rw [← List.range_eq_range'] at t
    simpa using t
  rw [e2]
def gd (s : List Int) (i : Int) : Int := (s[i.toNat]?).getD 0
theorem at_gd {s : List Int} {i : Int} (h0 : 0 ≤ i) (h1 : i < s.length) : atI s i = some (gd s i) := by
  obtain ⟨x, e, _, e2⟩ := atI_lt h0 h1
  rw [e]; unfold gd; rw [e2]; rfl
theorem setO_at {l : List Int} {k v : Int} (h0 : 0 ≤ k) (h1 : k < l.length) : SM.setO l k v = some (l.set k.toNat v) := by
  unfold SM.setO ixN
  first | (rw [if_pos (by omega)]; rfl) | (simp [h0, h1]; done) | (split <;> simp_all <;> omega)
theorem gd_set {s : List Int} {k i v : Int} (hk : 0 ≤ k) (hi : 0 ≤ i) (h : k ≠ i) : gd (s.set k.toNat v) i = gd s i := by
  unfold gd
  rw [List.getElem?_set_ne (by omega)]
/-- both sides go down from the last ridge: what lies below the turn is still zero -/
theorem gd_self {s : List Int} {k v : Int} (h0 : 0 ≤ k) (h1 : k < s.length) : gd (s.set k.toNat v) k = v := by
  unfold gd
  rw [List.getElem?_set_self (by omega)]; rfl
theorem dd_le {α : Type} [DecidableEq α] : ∀ xs : List α, (dd xs).length ≤ xs.length ∧ ((dd xs).length = xs.length → xs.Nodup)
  | [] => ⟨Nat.le_refl _, fun _ => List.nodup_nil⟩
  | x :: xs => by
    have ih := dd_le xs
    unfold dd
    first
      | (split
         · rename_i h
           refine ⟨by simp only [List.length_cons]; omega, fun e => ?_⟩
           simp only [List.length_cons] at e
           omega
         · rename_i h
           refine ⟨by simp only [List.length_cons]; omega, fun e => ?_⟩
           simp only [List.length_cons] at e
           refine List.nodup_cons.mpr ⟨fun q => h ?_, ih.2 (by omega)⟩
           first | exact q | exact mem_dd.mpr q)
/-- the size of the set tells whether there is a double -/
theorem mem_enumI {α : Type} {xs : List α} {p : Int × α} : p ∈ enumI xs ↔ ∃ (k : Nat), p.1 = (k : Int) ∧ xs[k]? = some p.2 := by
  unfold enumI
  rw [List.mem_iff_getElem?]
  constructor
  · rintro ⟨k, h⟩
    rw [List.getElem?_mapIdx] at h
    obtain ⟨x, h1, rfl⟩ := Option.map_eq_some_iff.mp h
    exact ⟨k, rfl, h1⟩
  · rintro ⟨k, h1, h2⟩
    refine ⟨k, ?_⟩
    rw [List.getElem?_mapIdx, h2]
    show some ((k : Int), p.2) = some p
    rw [← h1]
theorem nodup_len {α : Type} [DecidableEq α] : ∀ {a b : List α}, a.Nodup → (∀ x ∈ a, x ∈ b) → a.length ≤ b.length
  | [], _, _, _ => Nat.zero_le _
  | x :: a, b, h1, h2 => by
    obtain ⟨n1, n2⟩ := List.nodup_cons.mp h1
    have hx : x ∈ b := h2 x List.mem_cons_self
    have ih := nodup_len (a := a) (b := b.erase x) n2 fun y hy => (List.mem_erase_of_ne fun e => n1 (by rw [← e]; exact hy)).mpr (h2 y (List.mem_cons_of_mem _ hy))
    rw [List.length_erase_of_mem hx] at ih
    have : 0 < b.length := List.length_pos_of_mem hx
    rw [List.length_cons]
    omega
/-! ### held together -/
abbrev Rd := List (Int × Int)
def Clo (L : Rd) (S : Int → Bool) : Prop := ∀ r ∈ L, S r.1 = S r.2
def Tog (n : Int) (L : Rd) : Prop := ∀ S : Int → Bool, S 0 = true → Clo L S → ∀ x, 0 ≤ x → x < n → S x = true
def InR (n : Int) (L : Rd) : Prop := ∀ r ∈ L, 0 ≤ r.1 ∧ r.1 < n ∧ 0 ≤ r.2 ∧ r.2 < n
theorem Tog.mono {n : Int} {L M : Rd} (h : Tog n L) (s : ∀ r ∈ L, r ∈ M) : Tog n M := fun S h0 c => h S h0 fun r hr => c r (s r hr)
theorem gd_map {s : List Int} {f : Int → Int} {i : Int} (h0 : 0 ≤ i) (h1 : i < s.length) : gd (s.map f) i = f (gd s i) := by
  obtain ⟨x, _, _, e2⟩ := atI_lt h0 h1
  unfold gd
  rw [List.getElem?_map, e2]
  rfl
theorem gd_rng {n x : Int} (h0 : 0 ≤ x) (h1 : x < n) : gd (rng 0 n) x = x := by
  unfold gd
  rw [rng_get 0 n (by omega)]
  show (0 : Int) + (x.toNat : Int) = x
  omega
theorem gd_mem {s : List Int} {y : Int} (h : y ∈ s) : ∃ i, 0 ≤ i ∧ i < (s.length : Int) ∧ gd s i = y := by
  obtain ⟨k, hk⟩ := List.mem_iff_getElem?.mp h
  have := (List.getElem?_eq_some_iff.mp hk).1
  refine ⟨k, by omega, by omega, ?_⟩
  unfold gd
  rw [Int.toNat_natCast, hk]; rfl
theorem together_ok {n : Int} {L : Rd} (h1 : 1 ≤ n) (h2 : n ≤ 1000) (hL : InR n L) : ∃ b, m__law_together n L = some b ∧ (b = true ↔ Tog n L) := by
  unfold m__law_together
  refine ex_bind (rngO_eq (by omega)) (ex_bind rfl ?_)
  refine ex_fold (fun p s => (s.length : Int) = n ∧ (∀ x, 0 ≤ x → x < n → 0 ≤ gd s x ∧ gd s x ≤ x) ∧ (∀ r ∈ p, gd s r.1 = gd s r.2) ∧ ∀ S, Clo L S → ∀ x, 0 ≤ x → x < n → S (gd s x) = S x) ?_ ?_ ?_
  · rw [List.map_id']
    refine ⟨by rw [rng_len]; omega, fun x a b => ?_, fun r hr => absurd hr List.not_mem_nil, fun S _ x a b => ?_⟩
    · rw [gd_rng a b]; omega
    · rw [gd_rng a b]
  · rintro p r q s e ⟨i1, i2, i3, i4⟩
    have hr : r ∈ L := by rw [e]; exact List.mem_append_right _ List.mem_cons_self
    obtain ⟨a1, a2, a3, a4⟩ := hL r hr
    have g1 : atI s r.1 = some (gd s r.1) := at_gd a1 (by omega)
    have g2 : atI s r.2 = some (gd s r.2) := at_gd a3 (by omega)
    refine ⟨_, bnd g1 (bnd g2 (bnd rfl (bnd g1 (bnd g2 (bnd rfl (bnd rfl rfl)))))), ?_⟩
    have k1 := i2 r.1 a1 a2
    have k2 := i2 r.2 a3 a4
    have gm : ∀ x, 0 ≤ x → x < n → gd (List.map (fun (x14 : Int) => (if (decide (x14 = max (gd s r.1) (gd s r.2))) = true then min (gd s r.1) (gd s r.2) else x14)) s) x = if gd s x = max (gd s r.1) (gd s r.2) then min (gd s r.1) (gd s r.2) else gd s x := fun x x0 x1 => by
      rw [gd_map x0 (by omega)]
      by_cases c : gd s x = max (gd s r.1) (gd s r.2)
      · rw [if_pos (decide_eq_true c), if_pos c]
      · rw [if_neg (by rw [decide_eq_false c]; exact Bool.false_ne_true), if_neg c]
    refine ⟨by rw [List.length_map]; exact i1, fun x x0 x1 => ?_, fun y hy => ?_, fun S hS x x0 x1 => ?_⟩
    · rw [gm x x0 x1]
      have := i2 x x0 x1
      split <;> omega
    · have hyL : y ∈ L := by
        rw [e]
        rcases List.mem_append.mp hy with h | h
        · exact List.mem_append_left _ h
        · rw [List.mem_singleton.mp h]; exact List.mem_append_right _ List.mem_cons_self
      obtain ⟨b1, b2, b3, b4⟩ := hL y hyL
      rw [gm _ b1 b2, gm _ b3 b4]
      rcases List.mem_append.mp hy with h | h
      · rw [i3 y h]
      · rw [List.mem_singleton.mp h]
        split <;> split <;> omega
    · rw [gm x x0 x1]
      have w := i4 S hS x x0 x1
      split
      · rename_i c
        have w1 := i4 S hS r.1 a1 a2
        have w2 := i4 S hS r.2 a3 a4
        have w3 := hS r hr
        have c1 : S (gd s r.1) = S (gd s r.2) := by rw [w1, w2, w3]
        have c2 : S (min (gd s r.1) (gd s r.2)) = S (max (gd s r.1) (gd s r.2)) := by
          rcases Int.le_total (gd s r.1) (gd s r.2) with o | o
          · rw [Int.min_eq_left o, Int.max_eq_right o, c1]
          · rw [Int.min_eq_right o, Int.max_eq_left o, c1]
        rw [c2, ← c, w]
      · exact w
  · rintro s ⟨i1, i2, i3, i4⟩
    cases hm : s.max? with
    | none => have := List.max?_eq_none_iff.mp hm; subst this; simp at i1; omega
    | some t =>
      obtain ⟨m1, m2⟩ := List.max?_eq_some_iff.mp hm
      refine ⟨_, rfl, ?_⟩
      rw [decide_eq_true_iff]
      constructor
      · rintro rfl S h0 hS x x0 x1
        have := i4 S hS x x0 x1
        have z : gd s x ∈ s := by
          obtain ⟨y, _, m, e⟩ := atI_lt (xs := s) (i := x) x0 (by omega)
          unfold gd; rw [e]; exact m
        have := m2 _ z
        have := i2 x x0 x1
        have : gd s x = 0 := by omega
        rw [← i4 S hS x x0 x1, this, h0]
      · intro T
        obtain ⟨i, j0, j1, j2⟩ := gd_mem m1
        have := T (fun x => decide (gd s x = 0)) (by have := i2 0 (by omega) (by omega); simp only [decide_eq_true_iff]; omega) (fun r hr => by
          have := i3 r hr
          simp only [this]) i j0 (by omega)
        rw [decide_eq_true_iff] at this
        omega
/-! ### the villages that one comes to -/
def insI (ks : List Int) (x : Int) : List Int := if x ∈ ks then ks else ks ++ [x]
def stp (ks : List Int) (r : Int × Int) : List Int := if r.1 ∈ ks ∨ r.2 ∈ ks then insI (insI ks r.1) r.2 else ks
abbrev tr (ks : List Int) : List (Int × Bool) := ks.map fun x => (x, true)
theorem dhas_tr {ks : List Int} {x : Int} : dhas (tr ks) x = decide (x ∈ ks) := by
  unfold dhas
  rw [List.any_map]
  by_cases h : x ∈ ks
  · rw [decide_eq_true h, List.any_eq_true]
    exact ⟨x, h, by simp⟩
  · rw [decide_eq_false h, List.any_eq_false]
    intro y hy
    simp only [Function.comp, decide_eq_true_iff]
    rintro rfl
    exact h hy
theorem dput_tr {ks : List Int} {x : Int} (hl : ks.length < 1000) : dputO (tr ks) x true = some (tr (insI ks x)) := by
  unfold dputO
  rw [if_pos (by rw [List.length_map]; omega)]
  unfold dput insI
  have := dhas_tr (ks := ks) (x := x)
  unfold dhas at this
  rw [this]
  by_cases h : x ∈ ks
  · rw [if_pos (decide_eq_true h), if_pos h]
    congr 1
    rw [List.map_map]
    refine List.map_congr_left fun y _ => ?_
    show (if y = x then (y, true) else (y, true)) = (y, true)
    split <;> rfl
  · rw [if_neg (by rw [decide_eq_false h]; exact Bool.false_ne_true), if_neg h, show tr (ks ++ [x]) = tr ks ++ [(x, true)] from List.map_append]
theorem insI_pre (ks : List Int) (x : Int) : ks <+: insI ks x := by
  unfold insI
  split
  · exact List.prefix_rfl
  · exact List.prefix_append _ _
theorem mem_insI {ks : List Int} {x y : Int} : y ∈ insI ks x ↔ y ∈ ks ∨ y = x := by
  unfold insI
  split
  · rename_i h
    constructor
    · exact Or.inl
    · rintro (h1 | rfl)
      · exact h1
      · exact h
  · rw [List.mem_append, List.mem_singleton]
theorem insI_nd {ks : List Int} {x : Int} (h : ks.Nodup) : (insI ks x).Nodup := by
  unfold insI
  split
  · exact h
  · rename_i c
    rw [List.nodup_append]
    refine ⟨h, by simp, fun a ha b hb => ?_⟩
    rw [List.mem_singleton.mp hb]
    rintro rfl
    exact c ha
theorem stp_pre (ks : List Int) (r : Int × Int) : ks <+: stp ks r := by
  unfold stp
  split
  · exact (insI_pre _ _).trans (insI_pre _ _)
  · exact List.prefix_rfl
theorem stp_mem {ks : List Int} {r : Int × Int} {y : Int} (h : y ∈ stp ks r) : y ∈ ks ∨ ((r.1 ∈ ks ∨ r.2 ∈ ks) ∧ (y = r.1 ∨ y = r.2)) := by
  unfold stp at h
  split at h
  · rename_i c
    rcases mem_insI.mp h with h | h
    · rcases mem_insI.mp h with h | h
      · exact Or.inl h
      · exact Or.inr ⟨c, Or.inl h⟩
    · exact Or.inr ⟨c, Or.inr h⟩
  · exact Or.inl h
theorem stp_nd {ks : List Int} {r : Int × Int} (h : ks.Nodup) : (stp ks r).Nodup := by
  unfold stp
  split
  · exact insI_nd (insI_nd h)
  · exact h
theorem stp_fix {ks : List Int} {r : Int × Int} (h : stp ks r = ks) : (r.1 ∈ ks ↔ r.2 ∈ ks) := by
  unfold stp at h
  split at h
  · rename_i c
    have a : r.1 ∈ insI (insI ks r.1) r.2 := mem_insI.mpr (Or.inl (mem_insI.mpr (Or.inr rfl)))
    have b : r.2 ∈ insI (insI ks r.1) r.2 := mem_insI.mpr (Or.inr rfl)
    rw [h] at a b
    exact ⟨fun _ => b, fun _ => a⟩
  · rename_i c
    exact ⟨fun x => absurd (Or.inl x) c, fun x => absurd (Or.inr x) c⟩
theorem stp_clo {ks : List Int} {r : Int × Int} (h : r.1 ∈ ks ↔ r.2 ∈ ks) : stp ks r = ks := by
  unfold stp
  split
  · rename_i c
    have a : r.1 ∈ ks := c.elim id h.mpr
    have b : r.2 ∈ ks := h.mp a
    have e : insI ks r.1 = ks := by unfold insI; rw [if_pos a]
    rw [e]; unfold insI; rw [if_pos b]
  · rfl
abbrev pas (L : Rd) (ks : List Int) : List Int := L.foldl stp ks
theorem pas_pre : ∀ (L : Rd) (ks : List Int), ks <+: pas L ks
  | [], ks => List.prefix_rfl
  | r :: L, ks => (stp_pre ks r).trans (pas_pre L (stp ks r))
theorem pre_eq {a b c : List Int} (h1 : a <+: b) (h2 : b <+: c) (h : a = c) : b = a := by
  subst h
  have l1 := h1.length_le
  have l2 := h2.length_le
  exact (h1.eq_of_length (by omega)).symm
theorem pas_fix : ∀ {L : Rd} {ks : List Int}, pas L ks = ks → ∀ r ∈ L, (r.1 ∈ ks ↔ r.2 ∈ ks)
  | [], _, _, _, h => absurd h List.not_mem_nil
  | r :: L, ks, h, x, hx => by
    have e : stp ks r = ks := pre_eq (stp_pre ks r) (pas_pre L (stp ks r)) h.symm
    rcases List.mem_cons.mp hx with rfl | hx
    · exact stp_fix e
    · refine pas_fix (L := L) (ks := ks) ?_ x hx
      have h : pas L (stp ks r) = ks := h
      rw [e] at h
      exact h
theorem pas_clo : ∀ {L : Rd} {ks : List Int}, (∀ r ∈ L, (r.1 ∈ ks ↔ r.2 ∈ ks)) → pas L ks = ks
  | [], _, _ => rfl
  | r :: L, ks, h => by
    show pas L (stp ks r) = ks
    rw [stp_clo (h r List.mem_cons_self)]
    exact pas_clo fun x hx => h x (List.mem_cons_of_mem _ hx)
structure Kn (n : Int) (L : Rd) (ks : List Int) : Prop where
  nd : ks.Nodup
  z : 0 ∈ ks
  b : ∀ x ∈ ks, 0 ≤ x ∧ x < n
  s : ∀ S : Int → Bool, S 0 = true → Clo L S → ∀ x ∈ ks, S x = true
theorem Kn.stp {n : Int} {L : Rd} {ks : List Int} {r : Int × Int} (h : Kn n L ks) (hr : r ∈ L) (hL : InR n L) : Kn n L (stp ks r) where
  nd := stp_nd h.nd
  z := (stp_pre ks r).subset h.z
  b x hx := by
    obtain ⟨a1, a2, a3, a4⟩ := hL r hr
    rcases stp_mem hx with hx | ⟨_, rfl | rfl⟩
    · exact h.b x hx
    · exact ⟨a1, a2⟩
    · exact ⟨a3, a4⟩
  s S h0 hS x hx := by
    rcases stp_mem hx with hx | ⟨c, d⟩
    · exact h.s S h0 hS x hx
    · have e := hS r hr
      have : S r.1 = true := by
        rcases c with c | c
        · exact h.s S h0 hS _ c
        · rw [e]; exact h.s S h0 hS _ c
      rcases d with rfl | rfl
      · exact this
      · rw [← e]; exact this
theorem Kn.pas {n : Int} {L : Rd} (hL : InR n L) : ∀ {M : Rd} {ks : List Int}, (∀ r ∈ M, r ∈ L) → Kn n L ks → Kn n L (pas M ks)
  | [], _, _, h => h
  | r :: M, _, hM, h => Kn.pas hL (M := M) (fun x hx => hM x (List.mem_cons_of_mem _ hx)) (h.stp (hM r List.mem_cons_self) hL)
theorem Kn.len {n : Int} {L : Rd} {ks : List Int} (h : Kn n L ks) (hn : 1 ≤ n) : (ks.length : Int) ≤ n := by
  have := nodup_len (b := rng 0 n) h.nd fun x hx => mem_rng.mpr (h.b x hx)
  rw [rng_len] at this
  omega
theorem pas_run {n : Int} {L : Rd} (h2 : n ≤ 900) (hL : InR n L) (hn : 1 ≤ n) : ∀ {M : Rd} {ks : List Int}, (∀ r ∈ M, r ∈ L) → Kn n L ks → (List.foldlM (fun (s7 : ((List (Int × Bool)))) (x8 : (Int × Int)) =>
  (if ((dhas s7 x8.1) || (dhas s7 x8.2)) = true then ((dputO s7 x8.1 true).bind fun come12 =>
  (dputO come12 x8.2 true).bind fun come13 =>
  some (come13))
  else (some (s7))).bind fun (j11 : ((List (Int × Bool)))) =>
  some (j11)) ((tr ks) : ((List (Int × Bool)))) M) = some (tr (pas M ks))
  | [], _, _, _ => rfl
  | r :: M, ks, hM, h => by
    have hr := hM r List.mem_cons_self
    have hl := h.len hn
    rw [List.foldlM_cons]
    have e : (if ((dhas (tr ks) r.1) || (dhas (tr ks) r.2)) = true then ((dputO (tr ks) r.1 true).bind fun come12 => (dputO come12 r.2 true).bind fun come13 => some (come13)) else (some (tr ks))) = some (tr (stp ks r)) := by
      rw [dhas_tr, dhas_tr]
      unfold stp
      by_cases c : r.1 ∈ ks ∨ r.2 ∈ ks
      · rw [if_pos (by rw [Bool.or_eq_true, decide_eq_true_iff, decide_eq_true_iff]; exact c), if_pos c, dput_tr (by omega)]
        show (dputO (tr (insI ks r.1)) r.2 true).bind _ = _
        rw [dput_tr]
        · rfl
        · have : (insI ks r.1).length ≤ ks.length + 1 := by
            unfold insI; split
            · omega
            · rw [List.length_append]; exact Nat.le_refl _
          omega
      · rw [if_neg (by rw [Bool.or_eq_true, decide_eq_true_iff, decide_eq_true_iff]; exact c), if_neg c]
    rw [e]
    exact pas_run h2 hL hn (M := M) (fun x hx => hM x (List.mem_cons_of_mem _ hx)) (h.stp hr hL)
theorem hold_ok {n : Int} {L : Rd} (h1 : 1 ≤ n) (h2 : n ≤ 900) (hL : InR n L) : ∃ b, m_do_hold_together n L = some b ∧ (b = true ↔ Tog n L) := by
  unfold m_do_hold_together
  refine ex_bind rfl (ex_bind (rngO_eq (by omega)) ?_)
  refine ex_fold_rngI (fun k s => ∃ ks, s = tr ks ∧ Kn n L ks ∧ ((∀ r ∈ L, (r.1 ∈ ks ↔ r.2 ∈ ks)) ∨ k + 1 ≤ ks.length)) (by omega) ?_ ?_ ?_
  · exact ⟨[0], rfl, ⟨by simp, by simp, fun x hx => by rw [List.mem_singleton.mp hx]; omega, fun S h0 _ x hx => by rw [List.mem_singleton.mp hx]; exact h0⟩, Or.inr (by simp)⟩
  · rintro k _ hk ⟨ks, rfl, K, c⟩
    refine ⟨_, bnd (pas_run h2 hL h1 (fun _ h => h) K) rfl, pas L ks, rfl, K.pas hL fun _ h => h, ?_⟩
    rcases c with c | c
    · rw [pas_clo c]; exact Or.inl c
    · have p := pas_pre L ks
      have := p.length_le
      by_cases e : (pas L ks).length = ks.length
      · have e2 : pas L ks = ks := (p.eq_of_length e.symm).symm
        rw [e2]
        exact Or.inl (pas_fix e2)
      · exact Or.inr (by omega)
  · rintro _ ⟨ks, rfl, K, c⟩
    refine ⟨_, rfl, ?_⟩
    have kl := K.len h1
    have c : ∀ r ∈ L, (r.1 ∈ ks ↔ r.2 ∈ ks) := c.resolve_right (by omega)
    rw [decide_eq_true_iff, List.length_map]
    constructor
    · intro e S h0 hS x x0 x1
      by_cases m : x ∈ ks
      · exact K.s S h0 hS x m
      · have := nodup_len (a := x :: ks) (b := rng 0 n) (List.nodup_cons.mpr ⟨m, K.nd⟩) fun y hy => by
          rcases List.mem_cons.mp hy with rfl | hy
          · exact mem_rng.mpr ⟨x0, x1⟩
          · exact mem_rng.mpr (K.b y hy)
        rw [rng_len, List.length_cons] at this
        omega
    · intro T
      have := nodup_len (a := rng 0 n) (b := ks) ((rng_lt 0 n).imp fun h => by omega) fun x hx => by
        obtain ⟨x0, x1⟩ := mem_rng.mp hx
        have := T (fun y => decide (y ∈ ks)) (decide_eq_true K.z) (fun r hr => by simp only [c r hr]) x x0 x1
        exact decide_eq_true_iff.mp this
      rw [rng_len] at this
      omega
/-! ### splittings and rifts -/
theorem elim_nx {ρ α β : Type} {f : ρ → α} {g : β → Option α} {x : β} : Res.elim f g (.nx x) = g x := rfl
def evs (n : Int) : List (List Int) := (m_all_splittings n).getD []
theorem evs_ok : ∀ n ∈ [(1 : Int), 2, 3, 4], m_all_splittings n = some (evs n) ∧ m__law_splittings n = some (evs n) ∧ (∀ s ∈ evs n, (s.length : Int) = n ∧ ∀ x ∈ s, 0 ≤ x ∧ x ≤ 3) ∧ (evs n).length ≤ 15 ∧ 0 < (evs n).length := by decide +kernel
def aL : Nat → List (List Int)
  | 0 => [[]]
  | k + 1 => (aL k).flatMap fun s => [(0 : Int), 1, 2, 3].map (· :: s)
theorem mem_aL : ∀ {s : List Int}, (∀ x ∈ s, 0 ≤ x ∧ x ≤ 3) → s ∈ aL s.length
  | [], _ => List.mem_singleton.mpr rfl
  | x :: s, h => by
    refine List.mem_flatMap.mpr ⟨s, mem_aL fun y hy => h y (List.mem_cons_of_mem _ hy), List.mem_map.mpr ⟨x, ?_, rfl⟩⟩
    have := h x List.mem_cons_self
    simp only [List.mem_cons, List.not_mem_nil, or_false]
    omega
theorem split_small : ∀ n ∈ [1, 2, 3, 4], ∀ s ∈ aL n, m_is_splitting (n : Nat) s = some (decide (s ∈ evs (n : Nat))) := by decide +kernel
def mxs (s : List Int) : Int := (List.max? (-1 :: s)).getD 0
theorem mxs_some (s : List Int) : List.max? (-1 :: s) = some (mxs s) := by
  unfold mxs
  cases h : List.max? (-1 :: s) with
  | none => exact absurd (List.max?_eq_none_iff.mp h) (by simp)
  | some t => rfl
theorem split_ok {n : Int} (hn : n ∈ [(1 : Int), 2, 3, 4]) {s : List Int} : m_is_splitting n s = some (decide (s ∈ evs n)) := by
  by_cases hl : (s.length : Int) = n
  · by_cases hs : ∀ x ∈ s, 0 ≤ x ∧ x ≤ 3
    · have := split_small s.length (by simp only [List.mem_cons, List.not_mem_nil, or_false] at hn ⊢; omega) s (mem_aL hs)
      rw [hl] at this
      exact this
    · have ns : ¬ s ∈ evs n := fun m => hs ((evs_ok n hn).2.2.1 s m).2
      rw [decide_eq_false ns]
      have ln : s.length ≤ 4 := by simp only [List.mem_cons, List.not_mem_nil, or_false] at hn; omega
      unfold m_is_splitting
      refine itf (by rw [decide_eq_true hl]; rfl) ?_
      rw [quantM_all (g := fun x3 : Int × Int => (decide ((0 : Int) ≤ x3.2)) && (decide (x3.2 ≤ (mxs (s.take x3.1.toNat) + (1 : Int)))))]
      · show some _ = some false
        congr 1
        rw [Bool.eq_false_iff]
        intro a
        refine hs ?_
        have a := List.all_eq_true.mp a
        have key : ∀ k : Nat, ∀ x, s[k]? = some x → 0 ≤ x ∧ x ≤ k := by
          intro k
          induction k using Nat.strongRecOn with
          | ind k ih =>
            intro x hx
            have := a ((k : Int), x) (mem_enumI.mpr ⟨k, rfl, hx⟩)
            simp only [Bool.and_eq_true, decide_eq_true_iff, Int.toNat_natCast] at this
            refine ⟨this.1, ?_⟩
            have m := (List.max?_eq_some_iff.mp (mxs_some (s.take k))).1
            have : mxs (s.take k) ≤ (k : Int) - 1 := by
              rcases List.mem_cons.mp m with e | e
              · omega
              · obtain ⟨j, hj⟩ := List.mem_iff_getElem?.mp e
                rw [List.getElem?_take] at hj
                split at hj
                · have := ih j (by omega) _ hj; omega
                · cases hj
            omega
        intro x hx
        obtain ⟨k, hk⟩ := List.mem_iff_getElem?.mp hx
        have := key k x hk
        have := (List.getElem?_eq_some_iff.mp hk).1
        omega
      · rintro ⟨i, x⟩ hx
        obtain ⟨k, e1, e2⟩ := mem_enumI.mp hx
        simp only at e1 e2
        subst e1
        refine bnd (catO_eq (by have := cut_len (xs := s) (l := none) (u := some ((k : Int))); simp only [List.length_cons, List.length_nil]; omega)) ?_
        rw [cut_take (by omega)]
        refine bnd (mxs_some _) rfl
  · unfold m_is_splitting
    rw [if_pos (by rw [decide_eq_false hl]; rfl)]
    have ns : ¬ s ∈ evs n := fun m => hl ((evs_ok n hn).2.2.1 s m).1
    rw [decide_eq_false ns]
def btw (L : Rd) (s : List Int) : Nat := (L.filter fun r => !decide (gd s r.1 = gd s r.2)).length
def top (s : List Int) : Int := s.max?.getD 0
def rf (n : Int) (L : Rd) (k : Int) (s : List Int) : Bool := decide (s ∈ evs n) && (!decide (top s = 0) && decide ((k - 1) * (btw L s : Int) < k * top s))
theorem top_some {n : Int} (hn : n ∈ [(1 : Int), 2, 3, 4]) {s : List Int} (h : s ∈ evs n) : s.max? = some (top s) := by
  have l := ((evs_ok n hn).2.2.1 s h).1
  unfold top
  cases e : s.max? with
  | none => have := List.max?_eq_none_iff.mp e; subst this; simp only [List.mem_cons, List.not_mem_nil, or_false] at hn; simp only [List.length_nil] at l; omega
  | some t => rfl
theorem own_rift {n : Int} (hn : n ∈ [(1 : Int), 2, 3, 4]) {L : Rd} (hL : InR n L) (hl : L.length ≤ 100) {k : Int} (k1 : 1 ≤ k) (k2 : k ≤ 3) {s : List Int} : m_is_rift n L k s = some (rf n L k s) := by
  unfold m_is_rift rf
  by_cases h : s ∈ evs n
  · have l := ((evs_ok n hn).2.2.1 s h).1
    have tp := top_some hn h
    rw [decide_eq_true h, Bool.true_and]
    refine bnd (x := decide (top s = 0)) (by rw [split_ok hn, decide_eq_true h]; show orO (some (!true)) _ = _; rw [Bool.not_true, orO_f, tp]; rfl) ?_
    by_cases z : top s = 0
    · rw [decide_eq_true z]; rfl
    · rw [decide_eq_false z, if_neg Bool.false_ne_true]
      rw [compM_ok (g := fun r => if (!decide (gd s r.1 = gd s r.2)) = true then some (1 : Int) else none)]
      · show ((List.max? s).bind _) = _
        have bl : (L.filterMap fun r => if (!decide (gd s r.1 = gd s r.2)) = true then some (1 : Int) else none).length = btw L s := by
          unfold btw
          clear hL hl
          induction L with
          | nil => rfl
          | cons r L ih =>
            rw [List.filterMap_cons, List.filter_cons]
            by_cases c : (!decide (gd s r.1 = gd s r.2)) = true
            · rw [if_pos c, if_pos c, List.length_cons, List.length_cons, ih]
            · rw [if_neg c, if_neg c]; exact ih
        have bb : btw L s ≤ L.length := List.length_filter_le _ _
        rw [bl]
        refine bnd tp (bnd (mulO_eq (Or.inl (by omega))) (bnd (mulO_eq (Or.inl (by omega))) ?_))
        rfl
      · intro r hr
        obtain ⟨a1, a2, a3, a4⟩ := hL r hr
        refine bnd (at_gd a1 (by omega)) (bnd (at_gd a3 (by omega)) ?_)
        by_cases c : (!decide (gd s r.1 = gd s r.2)) = true
        · rw [if_pos c, if_pos c]; rfl
        · rw [if_neg c, if_neg c]
  · rw [decide_eq_false h, Bool.false_and]
    refine bnd (x := true) (by rw [split_ok hn, decide_eq_false h]; rfl) rfl
theorem law_rift {n : Int} (hn : n ∈ [(1 : Int), 2, 3, 4]) {L : Rd} (hL : InR n L) (hl : L.length ≤ 100) {k : Int} (k1 : 1 ≤ k) (k2 : k ≤ 3) {s : List Int} : m__law_rift (evs n) L k s = some (rf n L k s) := by
  unfold m__law_rift rf
  have mb : memB s (evs n) = decide (s ∈ evs n) := by
    first | rfl | (simp [memB]; done) | (unfold memB; rw [Bool.eq_iff_iff]; simp)
  by_cases h : s ∈ evs n
  · have l := ((evs_ok n hn).2.2.1 s h).1
    have tp := top_some hn h
    rw [decide_eq_true h, Bool.true_and]
    refine bnd (x := decide (top s = 0)) (by rw [mb, decide_eq_true h]; show orO (some (!true)) _ = _; rw [Bool.not_true, orO_f, tp]; rfl) ?_
    by_cases z : top s = 0
    · rw [decide_eq_true z]; rfl
    · rw [decide_eq_false z, if_neg Bool.false_ne_true]
      rw [compM_ok (g := fun r => if (!decide (gd s r.1 = gd s r.2)) = true then some r else none)]
      · show ((List.max? s).bind _) = _
        rw [filterMap_if]
        refine bnd tp (bnd (mulO_eq (Or.inl (by omega))) (bnd (mulO_eq (Or.inl (by omega))) ?_))
        rfl
      · intro r hr
        obtain ⟨a1, a2, a3, a4⟩ := hL r hr
        refine bnd (at_gd a1 (by omega)) (bnd (at_gd a3 (by omega)) ?_)
        by_cases c : (!decide (gd s r.1 = gd s r.2)) = true
        · rw [if_pos c, if_pos c]; rfl
        · rw [if_neg c, if_neg c]
  · rw [decide_eq_false h, Bool.false_and]
    refine bnd (x := true) (by rw [mb, decide_eq_false h]; rfl) rfl
theorem told_rift_ok {n : Int} (hn : n ∈ [(1 : Int), 2, 3, 4]) {L : Rd} (hL : InR n L) (hl : L.length ≤ 100) {k : Int} (k1 : 1 ≤ k) (k2 : k ≤ 3) : m_told_rift n L k = some ((evs n).find? (rf n L k)) := by
  unfold m_told_rift
  refine bnd (evs_ok n hn).1 ?_
  rw [foldR_find (h := fun s => if rf n L k s = true then some (some s) else none)]
  · have : ∀ xs : List (List Int), Res.elim (id : Option (List Int) → Option (List Int)) (fun (_ : Unit) => some none) (asR (xs.findSome? fun s => if rf n L k s = true then some (some s) else none)) = some (xs.find? (rf n L k)) := by
      intro xs
      induction xs with
      | nil => rfl
      | cons x xs ih =>
        rw [List.findSome?_cons, List.find?_cons]
        by_cases c : rf n L k x = true
        · rw [if_pos c, c]; rfl
        · rw [if_neg c, Bool.eq_false_iff.mpr c]; exact ih
    have t := this (evs n)
    generalize (evs n).findSome? _ = o at t ⊢
    cases o <;> exact t
  · intro s _
    refine bnd (own_rift hn hL hl k1 k2) ?_
    by_cases c : rf n L k s = true
    · rw [if_pos c, if_pos c]; rfl
    · rw [if_neg c, if_neg c]; rfl
/-! ### turns that hold -/
open Classical in
noncomputable def tg (n : Int) (L : Rd) : Bool := @decide (Tog n L) (propDecidable _)
theorem tg_iff {n : Int} {L : Rd} : tg n L = true ↔ Tog n L := by unfold tg; exact @decide_eq_true_iff _ (Classical.propDecidable _)
theorem tg_mono {n : Int} {L M : Rd} (s : ∀ r ∈ L, r ∈ M) (h : tg n L = true) : tg n M = true := tg_iff.mpr ((tg_iff.mp h).mono s)
theorem tg_same {n : Int} {L M : Rd} (s : ∀ r, r ∈ L ↔ r ∈ M) : tg n L = tg n M := by
  rw [Bool.eq_iff_iff]
  exact ⟨tg_mono fun r h => (s r).mp h, tg_mono fun r h => (s r).mpr h⟩
theorem own_tg {n : Int} {L : Rd} (h1 : 1 ≤ n) (h2 : n ≤ 900) (hL : InR n L) : m_do_hold_together n L = some (tg n L) := by
  obtain ⟨b, e, h⟩ := hold_ok h1 h2 hL
  rw [e, Bool.eq_iff_iff.mpr (h.trans tg_iff.symm)]
theorem law_tg {n : Int} {L : Rd} (h1 : 1 ≤ n) (h2 : n ≤ 900) (hL : InR n L) : m__law_together n L = some (tg n L) := by
  obtain ⟨b, e, h⟩ := together_ok h1 (by omega) hL
  rw [e, Bool.eq_iff_iff.mpr (h.trans tg_iff.symm)]
def op (L : Rd) (t : List Int) (d : Int) : Rd := ((enumI L).filter fun p => !decide (t[p.1.toNat]? = some d)).map (·.2)
theorem mem_op {L : Rd} {t : List Int} {d : Int} {r : Int × Int} : r ∈ op L t d ↔ ∃ k : Nat, L[k]? = some r ∧ t[k]? ≠ some d := by
  unfold op
  rw [List.mem_map]
  constructor
  · rintro ⟨p, hp, rfl⟩
    obtain ⟨h1, h2⟩ := List.mem_filter.mp hp
    obtain ⟨k, e1, e2⟩ := mem_enumI.mp h1
    refine ⟨k, e2, ?_⟩
    rw [e1, Int.toNat_natCast] at h2
    simpa using h2
  · rintro ⟨k, e1, e2⟩
    refine ⟨((k : Int), r), List.mem_filter.mpr ⟨mem_enumI.mpr ⟨k, rfl, e1⟩, ?_⟩, rfl⟩
    rw [Int.toNat_natCast]
    simpa using e2
theorem op_sub {L : Rd} {t : List Int} {d : Int} {r : Int × Int} (h : r ∈ op L t d) : r ∈ L := by
  obtain ⟨k, e, _⟩ := mem_op.mp h
  exact List.mem_iff_getElem?.mpr ⟨k, e⟩
theorem InR.op {n : Int} {L : Rd} {t : List Int} {d : Int} (h : InR n L) : InR n (op L t d) := fun r hr => h r (op_sub hr)
theorem day_ok {n : Int} {L : Rd} {t : List Int} {d : Int} (h1 : 1 ≤ n) (h2 : n ≤ 900) (hL : InR n L) : m_does_day_hold n L t d = some (tg n (op L t d)) := by
  unfold m_does_day_hold
  show (Option.bind _ _) = _
  refine bnd rfl ?_
  have mem : ∀ k : Nat, ((k : Int) ∈ List.map (fun (x5 : (Int × Int)) => x5.1) (List.filter (fun (x5 : (Int × Int)) => (decide (x5.2 = d))) (enumI t))) ↔ t[k]? = some d := by
    intro k
    rw [List.mem_map]
    constructor
    · rintro ⟨p, hp, e⟩
      obtain ⟨m, e2⟩ := List.mem_filter.mp hp
      obtain ⟨j, j1, j2⟩ := mem_enumI.mp m
      have : j = k := by omega
      subst this
      rw [j2, decide_eq_true_iff.mp e2]
    · intro e
      exact ⟨((k : Int), d), List.mem_filter.mpr ⟨mem_enumI.mpr ⟨k, rfl, e⟩, decide_eq_true rfl⟩, rfl⟩
  have e : (List.map (fun (x7 : (Int × (Int × Int))) => x7.2) (List.filter (fun (x7 : (Int × (Int × Int))) => (!(decide (x7.1 ∈ List.map (fun (x5 : (Int × Int)) => x5.1) (List.filter (fun (x5 : (Int × Int)) => (decide (x5.2 = d))) (enumI t)))))) (enumI L))) = op L t d := by
    unfold op
    congr 1
    refine List.filter_congr fun p hp => ?_
    obtain ⟨k, e1, e2⟩ := mem_enumI.mp hp
    rw [e1, Int.toNat_natCast]
    congr 1
    rw [Bool.eq_iff_iff, decide_eq_true_iff, decide_eq_true_iff]
    exact mem k
  rw [e]
  refine bnd (own_tg h1 h2 hL.op) rfl
noncomputable def hold (n : Int) (L : Rd) (k : Int) (t : List Int) : Bool := (decide (t.length = L.length) && t.all fun x => decide (0 ≤ x) && decide (x < k)) && (rng 0 k).all fun d => tg n (op L t d)
theorem hold_iff {n : Int} {L : Rd} {k : Int} {t : List Int} : hold n L k t = true ↔ t.length = L.length ∧ (∀ x ∈ t, 0 ≤ x ∧ x < k) ∧ ∀ d, 0 ≤ d → d < k → tg n (op L t d) = true := by
  unfold hold
  rw [Bool.and_eq_true, Bool.and_eq_true, decide_eq_true_iff, List.all_eq_true, List.all_eq_true, and_assoc]
  refine and_congr Iff.rfl (and_congr ?_ ?_)
  · refine forall_congr' fun x => forall_congr' fun _ => ?_
    rw [Bool.and_eq_true, decide_eq_true_iff, decide_eq_true_iff]
  · exact ⟨fun h d a b => h d (mem_rng.mpr ⟨a, b⟩), fun h d m => h d (mem_rng.mp m).1 (mem_rng.mp m).2⟩
theorem own_hold {n : Int} {L : Rd} {k : Int} {t : List Int} (h1 : 1 ≤ n) (h2 : n ≤ 900) (hL : InR n L) (k1 : 1 ≤ k) (k2 : k ≤ 3) : m_do_turns_hold n L k t = some (hold n L k t) := by
  unfold m_do_turns_hold hold
  have q : quantM true (fun (x5 : Int) => (some (some ((decide ((0 : Int) ≤ x5)) && (decide (x5 < k)))))) t = some (t.all fun x => decide (0 ≤ x) && decide (x < k)) := quantM_all fun x _ => rfl
  rw [q]
  have q2 : quantM true (fun (x9 : Int) => ((m_does_day_hold n L t x9).bind fun t10 => (some (some t10)))) (rng 0 k) = some ((rng 0 k).all fun d => tg n (op L t d)) := quantM_all fun d _ => by rw [day_ok h1 h2 hL]; rfl
  rw [rngO_eq (by omega)]
  show Option.bind _ _ = _
  by_cases e : t.length = L.length
  · have e2 : decide ((t.length : Int) = (L.length : Int)) = true := decide_eq_true (by omega)
    rw [e2, decide_eq_true e]
    cases ha : t.all fun x => decide (0 ≤ x) && decide (x < k) with
    | true =>
      show ((quantM true _ (rng 0 k)).bind _) = _
      rw [q2]; rfl
    | false => rfl
  · have e2 : decide ((t.length : Int) = (L.length : Int)) = false := decide_eq_false (by omega)
    rw [e2, decide_eq_false e]
    rfl
theorem law_days {n : Int} {L : Rd} {k : Int} {t : List Int} (h1 : 1 ≤ n) (h2 : n ≤ 900) (hL : InR n L) (hl : t.length = L.length) (l2 : L.length ≤ 100) : ∀ xs : List Int, ((foldR (ρ := Bool) (β := Unit) (fun (s7 : Unit) (x8 : Int) =>
  (rngO 0 ((List.length L : Nat) : Int)).bind fun r9 =>
  (compM (fun (x10 : Int) => ((atI t x10).bind fun t11 => (if (!(decide (t11 = x8))) = true then ((atI L x10).bind fun t12 => (some t12)).bind (fun y => some (some y)) else some none))) r9).bind fun l13 =>
  (m__law_together n l13).bind fun t14 =>
  if (!t14) = true then (some (.ret false))
  else some (.nx ())) (() : Unit) xs).bind (Res.elim id fun (s7 : Unit) =>
  some true)) = some (xs.all fun d => tg n (op L t d)) := by
  have one : ∀ d, ((rngO 0 ((List.length L : Nat) : Int)).bind fun r9 =>
      (compM (fun (x10 : Int) => ((atI t x10).bind fun t11 => (if (!(decide (t11 = d))) = true then ((atI L x10).bind fun t12 => (some t12)).bind (fun y => some (some y)) else some none))) r9).bind fun l13 => m__law_together n l13) = some (tg n (op L t d)) := by
    intro d
    rw [rngO_eq (by omega)]
    show ((compM _ (rng 0 (L.length : Int))).bind _) = _
    rw [compM_ok (g := fun i => if t[i.toNat]? = some d then none else L[i.toNat]?)]
    · show m__law_together n _ = _
      have mm : ∀ r, r ∈ (rng 0 (L.length : Int)).filterMap (fun i => if t[i.toNat]? = some d then none else L[i.toNat]?) ↔ r ∈ op L t d := by
        intro r
        rw [List.mem_filterMap, mem_op]
        constructor
        · rintro ⟨i, hi, e⟩
          split at e
          · cases e
          · rename_i c
            exact ⟨i.toNat, e, c⟩
        · rintro ⟨k, e1, e2⟩
          have := (List.getElem?_eq_some_iff.mp e1).1
          refine ⟨(k : Int), mem_rng.mpr ⟨by omega, by omega⟩, ?_⟩
          rw [Int.toNat_natCast, if_neg e2, e1]
      rw [law_tg h1 h2 fun r hr => hL.op r ((mm r).mp hr), tg_same mm]
    · intro i hi
      obtain ⟨i0, i1⟩ := mem_rng.mp hi
      obtain ⟨x, ex, _, ex2⟩ := atI_lt (xs := t) (i := i) i0 (by omega)
      obtain ⟨y, ey, _, ey2⟩ := atI_lt (xs := L) (i := i) i0 (by omega)
      rw [ex, ey, ex2, ey2]
      show (if (!(decide (x = d))) = true then _ else _) = _
      by_cases c : x = d
      · rw [decide_eq_true c, if_neg (by simp), if_pos (by rw [c])]
      · rw [decide_eq_false c, if_neg fun h => c (Option.some.inj h)]
        rfl
  intro xs
  induction xs with
  | nil => rfl
  | cons d xs ih =>
    have o := one d
    obtain ⟨r9, o1, o⟩ := Option.bind_eq_some_iff.mp o
    obtain ⟨l13, o2, o⟩ := Option.bind_eq_some_iff.mp o
    rw [List.all_cons]
    have st : ∀ {f : Unit → Int → Option (Res Bool Unit)}, f () d = (if (!tg n (op L t d)) = true then (some (.ret false)) else some (.nx ())) → (foldR f () (d :: xs)).bind (Res.elim id fun (_ : Unit) => some true) = if tg n (op L t d) = true then (foldR f () xs).bind (Res.elim id fun (_ : Unit) => some true) else some false := by
      intro f hf
      show ((f () d).bind _).bind _ = _
      rw [hf]
      cases tg n (op L t d) <;> rfl
    refine (st (bnd o1 (bnd o2 (bnd o rfl)))).trans ?_
    cases hc : tg n (op L t d) with
    | true => exact ih
    | false => rfl
theorem law_hold {n : Int} {L : Rd} {k : Int} {t : List Int} (h1 : 1 ≤ n) (h2 : n ≤ 900) (hL : InR n L) (l2 : L.length ≤ 100) (k1 : 1 ≤ k) (k2 : k ≤ 3) : m__law_hold n L k t = some (hold n L k t) := by
  unfold m__law_hold hold
  rw [rngO_eq (by omega)]
  have fl : decide ((0 : Int) < ((List.length (List.map (fun (x5 : Int) => x5) (List.filter (fun (x5 : Int) => ((decide (x5 < (0 : Int))) || (decide (k ≤ x5)))) t)) : Nat) : Int)) = !(t.all fun x => decide (0 ≤ x) && decide (x < k)) := by
    rw [Bool.eq_iff_iff, decide_eq_true_iff, List.length_map, Bool.not_eq_true', List.all_eq_false]
    constructor
    · intro h
      obtain ⟨x, hx⟩ := List.exists_mem_of_length_pos (l := List.filter (fun (x5 : Int) => ((decide (x5 < (0 : Int))) || (decide (k ≤ x5)))) t) (by omega)
      obtain ⟨m, c⟩ := List.mem_filter.mp hx
      refine ⟨x, m, ?_⟩
      simp only [Bool.or_eq_true, Bool.and_eq_true, decide_eq_true_iff] at c ⊢
      omega
    · rintro ⟨x, m, c⟩
      have : x ∈ List.filter (fun (x5 : Int) => ((decide (x5 < (0 : Int))) || (decide (k ≤ x5)))) t := List.mem_filter.mpr ⟨m, by
        simp only [Bool.or_eq_true, Bool.and_eq_true, decide_eq_true_iff] at c ⊢
        omega⟩
      have := List.length_pos_of_mem this
      omega
  rw [fl]
  by_cases e : t.length = L.length
  · have e2 : decide ((t.length : Int) = (L.length : Int)) = true := decide_eq_true (by omega)
    rw [e2, decide_eq_true e]
    cases ha : t.all fun x => decide (0 ≤ x) && decide (x < k) with
    | true => exact law_days h1 h2 hL e l2 _ (k := k)
    | false => rfl
  · have e2 : decide ((t.length : Int) = (L.length : Int)) = false := decide_eq_false (by omega)
    rw [e2, decide_eq_false e]
    rfl
theorem law_hold_v2 {n : Int} {L : Rd} {k : Int} {t : List Int} (h1 : 1 ≤ n) (h2 : n ≤ 900) (hL : InR n L) (l2 : L.length ≤ 100) (k1 : 1 ≤ k) (k2 : k ≤ 3) : m__law_hold_v2 n L k t = some (hold n L k t) := law_hold h1 h2 hL l2 k1 k2
/-! ### the told turns: a walk with a stack -/
def cst : Nat → Nat
  | 0 => 1
  | r + 1 => 1 + 3 * cst r
noncomputable def kids (n : Int) (L : Rd) (k : Int) (p : List Int) : List (List Int) := ((rng 0 k).filter fun d => tg n (op L (p ++ [d]) d)).map fun d => p ++ [d]
noncomputable def dfs (n : Int) (L : Rd) (k : Int) : Nat → List Int → Option (List Int)
  | 0, p => some p
  | r + 1, p => (kids n L k p).findSome? (dfs n L k r)
def wl (n1 : Int) (roads2 : Rd) (k3 : Int) (N : Nat) (W : List (List Int)) : Option (Res (Option (List Int)) (List (List Int))) :=
  whileR (ρ := (Option (List Int))) (β := ((List (List Int)))) (fun (s6 : ((List (List Int)))) => (some (!s6.isEmpty))) (fun (s6 : ((List (List Int)))) =>
  (popO s6).bind fun p7 =>
  if (decide (((List.length p7.1 : Nat) : Int) = ((List.length roads2 : Nat) : Int))) = true then (some (.ret (some p7.1)))
  else (rng3O (k3 - (1 : Int)) (-(1 : Int)) (-(1 : Int))).bind fun r8 =>
  (List.foldlM (fun (s9 : ((List (List Int)))) (x10 : Int) =>
  (catO p7.1 [x10]).bind fun t11 =>
  (m_does_day_hold n1 roads2 t11 x10).bind fun t12 =>
  (if t12 = true then ((catO p7.1 [x10]).bind fun t16 =>
  (appO s9 t16).bind fun waiting17 =>
  some (waiting17))
  else (some (s9))).bind fun (j15 : ((List (List Int)))) =>
  some (j15)) ((p7.2) : ((List (List Int)))) r8).bind fun (s9 : ((List (List Int)))) =>
  some (.nx (s9))) N ((W) : ((List (List Int))))
theorem popO_app {α : Type} {W : List α} {p : α} : popO (W ++ [p]) = some (p, W) := by unfold popO; simp
theorem whileR_go {ρ β : Type} {c : β → Option Bool} {f : β → Option (Res ρ β)} {N : Nat} {t : β} {r : Res ρ β} (h : c t = some true) (h2 : f t = some r) : whileR c f (N + 1) t = (some r).bind (Res.elim .ret (whileR c f N)) := by
  show ((c t).bind _) = _
  rw [h]
  show ((f t).bind _) = _
  rw [h2]
theorem whileR_end {ρ β : Type} {c : β → Option Bool} {f : β → Option (Res ρ β)} {N : Nat} {t : β} (h : c t = some false) : whileR c f (N + 1) t = some (.nx t) := by
  show ((c t).bind _) = _
  rw [h]; rfl
theorem rng3_k : ∀ k ∈ [(1 : Int), 2, 3], rng3O (k - (1 : Int)) (-(1 : Int)) (-(1 : Int)) = some (rng 0 k).reverse ∧ (rng 0 k).length ≤ 3 := by decide +kernel
theorem wl_end {n : Int} {L : Rd} {k : Int} {N : Nat} {W : List (List Int)} {p : List Int} (h : p.length = L.length) : wl n L k (N + 1) (W ++ [p]) = some (.ret (some p)) := by
  unfold wl
  refine (whileR_go (r := .ret (some p)) ?_ ?_).trans rfl
  · show some (!(W ++ [p]).isEmpty) = _
    cases W <;> rfl
  · refine bnd popO_app ?_
    rw [if_pos (decide_eq_true (by show ((p.length : Nat) : Int) = _; omega))]
theorem kids_fold {n : Int} {L : Rd} {p : List Int} (h1 : 1 ≤ n) (h2 : n ≤ 900) (hL : InR n L) (hp : p.length ≤ 1000) : ∀ {xs : List Int} {s : List (List Int)}, s.length + xs.length ≤ 10000 → (List.foldlM (fun (s9 : ((List (List Int)))) (x10 : Int) =>
  (catO p [x10]).bind fun t11 =>
  (m_does_day_hold n L t11 x10).bind fun t12 =>
  (if t12 = true then ((catO p [x10]).bind fun t16 =>
  (appO s9 t16).bind fun waiting17 =>
  some (waiting17))
  else (some (s9))).bind fun (j15 : ((List (List Int)))) =>
  some (j15)) s xs) = some (s ++ (xs.filter fun d => tg n (op L (p ++ [d]) d)).map fun d => p ++ [d])
  | [], s, _ => by rw [List.filter_nil, List.map_nil, List.append_nil]; rfl
  | x :: xs, s, hl => by
    rw [List.length_cons] at hl
    have c : catO p [x] = some (p ++ [x]) := catO_eq (by rw [List.length_singleton]; omega)
    rw [List.foldlM_cons, c, List.filter_cons]
    show (((m_does_day_hold n L (p ++ [x]) x).bind _).bind _) = _
    rw [day_ok h1 h2 hL]
    cases hc : tg n (op L (p ++ [x]) x) with
    | true =>
      show (((appO s (p ++ [x])).bind _).bind _).bind _ = _
      rw [appO_eq (by omega)]
      show List.foldlM _ (s ++ [p ++ [x]]) xs = _
      rw [kids_fold h1 h2 hL hp (by rw [List.length_append, List.length_singleton]; omega), if_pos rfl, List.map_cons, List.append_assoc]
      rfl
    | false =>
      show List.foldlM _ s xs = _
      rw [kids_fold h1 h2 hL hp (by omega), if_neg Bool.false_ne_true]
theorem wl_step {n : Int} {L : Rd} {k : Int} {N : Nat} {W : List (List Int)} {p : List Int} (hk : k ∈ [(1 : Int), 2, 3]) (h1 : 1 ≤ n) (h2 : n ≤ 900) (hL : InR n L) (l2 : L.length ≤ 100) (h : p.length < L.length) (hW : W.length ≤ 1000) : wl n L k (N + 1) (W ++ [p]) = wl n L k N (W ++ (kids n L k p).reverse) := by
  obtain ⟨r1, r2⟩ := rng3_k k hk
  unfold wl
  refine (whileR_go (r := .nx (W ++ (kids n L k p).reverse)) ?_ ?_).trans rfl
  · show some (!(W ++ [p]).isEmpty) = _
    cases W <;> rfl
  · refine bnd popO_app ?_
    rw [if_neg (by rw [decide_eq_false (by show ¬ ((p.length : Nat) : Int) = _; omega)]; exact Bool.false_ne_true)]
    refine bnd r1 (bnd (kids_fold h1 h2 hL (by show p.length ≤ 1000; omega) (by show W.length + _ ≤ _; rw [List.length_reverse]; omega)) ?_)
    unfold kids
    rw [List.filter_reverse, List.map_reverse]
theorem kids_len {n : Int} {L : Rd} {k : Int} {p : List Int} (hk : k ∈ [(1 : Int), 2, 3]) : (kids n L k p).length ≤ 3 := by
  unfold kids
  rw [List.length_map]
  exact Nat.le_trans (List.length_filter_le _ _) (rng3_k k hk).2
theorem mem_kids {n : Int} {L : Rd} {k : Int} {p q : List Int} (h : q ∈ kids n L k p) : q.length = p.length + 1 := by
  obtain ⟨d, _, rfl⟩ := List.mem_map.mp h
  rw [List.length_append]; rfl
theorem wl_list {n : Int} {L : Rd} {k : Int} {r B : Nat} (H : ∀ p : List Int, p.length + r = L.length → ∃ c, c ≤ cst r ∧ ∀ N W, W.length + 3 * r ≤ B → wl n L k (N + c) (W ++ [p]) = match dfs n L k r p with | some t => some (.ret (some t)) | none => wl n L k N W) :
    ∀ cs : List (List Int), (∀ q ∈ cs, q.length + r = L.length) → ∃ c, c ≤ cs.length * cst r ∧ ∀ N W, W.length + cs.length + 3 * r ≤ B → wl n L k (N + c) (W ++ cs.reverse) = match cs.findSome? (dfs n L k r) with | some t => some (.ret (some t)) | none => wl n L k N W
  | [], _ => ⟨0, by omega, fun N W _ => by rw [List.reverse_nil, List.append_nil]; rfl⟩
  | q :: cs, hq => by
    obtain ⟨c1, l1, e1⟩ := H q (hq q List.mem_cons_self)
    obtain ⟨c2, l2, e2⟩ := wl_list H cs fun x hx => hq x (List.mem_cons_of_mem _ hx)
    refine ⟨c2 + c1, ?_, fun N W hW => ?_⟩
    · rw [List.length_cons, Nat.succ_mul]; omega
    · rw [List.length_cons] at hW
      rw [List.reverse_cons, ← List.append_assoc, ← Nat.add_assoc, e1 (N + c2) (W ++ cs.reverse) (by rw [List.length_append, List.length_reverse]; omega), List.findSome?_cons]
      cases dfs n L k r q with
      | some t => rfl
      | none => exact e2 N W (by omega)
theorem wl_dfs {n : Int} {L : Rd} {k : Int} (hk : k ∈ [(1 : Int), 2, 3]) (h1 : 1 ≤ n) (h2 : n ≤ 900) (hL : InR n L) (l2 : L.length ≤ 100) : ∀ (r : Nat) (p : List Int), p.length + r = L.length → ∃ c, c ≤ cst r ∧ ∀ N W, W.length + 3 * r ≤ 1000 → wl n L k (N + c) (W ++ [p]) = match dfs n L k r p with | some t => some (.ret (some t)) | none => wl n L k N W
  | 0, p, hp => ⟨1, Nat.le_refl _, fun N W _ => wl_end (by omega)⟩
  | r + 1, p, hp => by
    obtain ⟨c, l, e⟩ := wl_list (wl_dfs hk h1 h2 hL l2 r) (kids n L k p) fun q hq => by have := mem_kids hq; omega
    have kl := kids_len (n := n) (L := L) (p := p) hk
    refine ⟨c + 1, ?_, fun N W hW => ?_⟩
    · have : (kids n L k p).length * cst r ≤ 3 * cst r := Nat.mul_le_mul_right _ kl
      show c + 1 ≤ 1 + 3 * cst r
      omega
    · rw [← Nat.add_assoc, wl_step hk h1 h2 hL l2 (by omega) (by omega)]
      exact e N W (by omega)
theorem cst_le : ∀ {a b : Nat}, a ≤ b → cst a ≤ cst b
  | 0, 0, _ => Nat.le_refl _
  | 0, b + 1, _ => by show 1 ≤ 1 + _; omega
  | a + 1, b + 1, h => by have := cst_le (a := a) (b := b) (by omega); show 1 + 3 * cst a ≤ 1 + 3 * cst b; omega
theorem told_turns_ok {n : Int} {L : Rd} {k : Int} (hn : n ∈ [(1 : Int), 2, 3, 4]) (hk : k ∈ [(1 : Int), 2, 3]) (hL : InR n L) (l2 : L.length ≤ 6) : m_told_turns n L k = some (if ((evs n).find? (rf n L k)).isSome = true then none else dfs n L k L.length []) := by
  have n1 : 1 ≤ n ∧ n ≤ 4 := by simp only [List.mem_cons, List.not_mem_nil, or_false] at hn; omega
  have kk : 1 ≤ k ∧ k ≤ 3 := by simp only [List.mem_cons, List.not_mem_nil, or_false] at hk; omega
  unfold m_told_turns
  refine bnd (told_rift_ok hn hL (by omega) kk.1 kk.2) ?_
  cases hf : (evs n).find? (rf n L k) with
  | some s => rfl
  | none =>
    obtain ⟨c, l, e⟩ := wl_dfs hk n1.1 (by omega) hL (by omega) L.length [] (by simp)
    have cl : cst L.length ≤ cst 6 := cst_le l2
    have c6 : cst 6 = 1093 := by decide
    have e := e (100000 - c) [] (by simp only [List.length_nil]; omega)
    rw [Nat.sub_add_cancel (by omega), List.nil_append] at e
    show ((wl n L k 100000 [[]]).bind _) = some (if false = true then none else _)
    rw [e, if_neg Bool.false_ne_true]
    cases dfs n L k L.length [] with
    | some t => rfl
    | none =>
      have : wl n L k (100000 - c) [] = some (.nx []) := by
        obtain ⟨N, hN⟩ : ∃ N, 100000 - c = N + 1 := ⟨100000 - c - 1, by omega⟩
        rw [hN]
        unfold wl
        exact whileR_end rfl
      show ((wl n L k (100000 - c) []).bind _) = _
      rw [this]; rfl
/-! ### the least turns: numbers counted up -/
def lsx (k : Int) : Nat → List (List Int)
  | 0 => [[]]
  | m + 1 => (rng 0 k).flatMap fun d => (lsx k m).map (d :: ·)
def inn (k : Int) (m : Nat) (s : List Int) (x : Int) : Option (List Int × Int) :=
  List.foldlM (fun (s11 : ((List Int) × Int)) (x12 : Int) =>
  (modO s11.2 k).bind fun t13 =>
  (SM.setO s11.1 ((((m : Nat) : Int) - (1 : Int)) - x12) t13).bind fun turns14 =>
  (fdivO s11.2 k).bind fun rest16 =>
  some (turns14, rest16)) ((s, x) : ((List Int) × Int)) (rng 0 (m : Int))
def wlk (k : Int) (m : Nat) : Int → List Int → List (List Int) → Bool
  | x, s, [] => decide (x = 729) || (match inn k m s x with | some r => decide (0 < r.2) | none => false)
  | x, s, t :: ts => decide (inn k m s x = some (t, 0)) && wlk k m (x + 1) t ts
theorem wlk_all : ∀ k ∈ [(1 : Int), 2, 3], ∀ m ∈ List.range 7, wlk k m 0 (List.replicate m 0) (lsx k m) = true ∧ (lsx k m).length ≤ 729 := by decide +kernel
theorem least_run {n : Int} {L : Rd} {k : Int} (h1 : 1 ≤ n) (h2 : n ≤ 900) (hL : InR n L) (l2 : L.length ≤ 100) (k1 : 1 ≤ k) (k2 : k ≤ 3) : ∀ (ts : List (List Int)) (x : Int) (s : List Int), wlk k L.length x s ts = true → 0 ≤ x → x + (ts.length : Int) ≤ 729 → ((foldR (ρ := (Option (List Int))) (β := ((List Int))) (fun (s7 : ((List Int))) (x8 : Int) =>
  (some x8).bind fun rest9 =>
  (rngO 0 ((List.length L : Nat) : Int)).bind fun r10 =>
  (List.foldlM (fun (s11 : ((List Int) × Int)) (x12 : Int) =>
  (modO s11.2 k).bind fun t13 =>
  (SM.setO s11.1 ((((List.length L : Nat) : Int) - (1 : Int)) - x12) t13).bind fun turns14 =>
  (fdivO s11.2 k).bind fun rest16 =>
  some (turns14, rest16)) ((s7, rest9) : ((List Int) × Int)) r10).bind fun (s11 : ((List Int) × Int)) =>
  if (decide ((0 : Int) < s11.2)) = true then (some (.ret none))
  else (m__law_hold_v2 n L k s11.1).bind fun t17 =>
  if t17 = true then (some (.ret (some s11.1)))
  else some (.nx (s11.1))) s (rng x 729)).bind (Res.elim id fun (s7 : ((List Int))) =>
  some none)) = some (ts.find? (hold n L k))
  | [], x, s, hw, hx, hl => by
    by_cases c : x < 729
    · rw [rng_cons c]
      unfold wlk at hw
      rw [decide_eq_false (by omega), Bool.false_or] at hw
      unfold foldR
      cases hi : inn k L.length s x with
      | none => rw [hi] at hw; cases hw
      | some r =>
        rw [hi] at hw
        have st : ∀ {g : List Int → Option (Res (Option (List Int)) (List Int))} {o : Option (Res (Option (List Int)) (List Int))}, o = some (.ret none) → (o.bind (Res.elim .ret g)).bind (Res.elim id fun (_ : List Int) => some none) = some none := by
          rintro g o rfl; rfl
        refine st ?_
        refine bnd rfl (bnd (rngO_eq (by omega)) (bnd hi ?_))
        rw [if_pos hw]
    · rw [rng_neg (by omega)]; rfl
  | t :: ts, x, s, hw, hx, hl => by
    rw [List.length_cons] at hl
    rw [rng_cons (by omega)]
    unfold wlk at hw
    rw [Bool.and_eq_true, decide_eq_true_iff] at hw
    obtain ⟨hi, hw⟩ := hw
    have ih := least_run h1 h2 hL l2 k1 k2 ts (x + 1) t hw (by omega) (by omega)
    have st : ∀ {f : List Int → Int → Option (Res (Option (List Int)) (List Int))} {b : Bool}, f s x = (if b = true then (some (.ret (some t))) else some (.nx t)) → ((foldR f s (x :: rng (x + 1) 729)).bind (Res.elim id fun (_ : List Int) => some none)) = if b = true then some (some t) else (foldR f t (rng (x + 1) 729)).bind (Res.elim id fun (_ : List Int) => some none) := by
      intro f b hf
      show ((f s x).bind _).bind _ = _
      rw [hf]
      cases b <;> rfl
    refine (st (b := hold n L k t) ?_).trans ?_
    · refine bnd rfl (bnd (rngO_eq (by omega)) (bnd hi ?_))
      show (if decide ((0 : Int) < 0) = true then _ else _) = _
      rw [if_neg (by decide)]
      exact bnd (law_hold_v2 h1 h2 hL l2 k1 k2) rfl
    · rw [List.find?_cons]
      cases hold n L k t with
      | true => rfl
      | false => exact ih
theorem least_ok {n : Int} {L : Rd} {k : Int} (h1 : 1 ≤ n) (h2 : n ≤ 900) (hL : InR n L) (l2 : L.length ≤ 6) (hk : k ∈ [(1 : Int), 2, 3]) : m__law_least_turns n L k = some ((lsx k L.length).find? (hold n L k)) := by
  have kk : 1 ≤ k ∧ k ≤ 3 := by simp only [List.mem_cons, List.not_mem_nil, or_false] at hk; omega
  obtain ⟨w, wl⟩ := wlk_all k hk L.length (List.mem_range.mpr (by omega))
  unfold m__law_least_turns
  refine bnd (x := List.replicate L.length 0) (by unfold repO; rw [if_pos (by omega), Int.toNat_natCast]) (bnd (rngO_eq (by omega)) ?_)
  exact least_run h1 h2 hL (by omega) kk.1 kk.2 (lsx k L.length) 0 _ w (by omega) (by omega)
/-! ### both are the first in order -/
noncomputable def okp (n : Int) (L : Rd) : List Int → List Int → Bool
  | _, [] => true
  | p, d :: u => tg n (op L (p ++ [d]) d) && okp n L (p ++ [d]) u
theorem find_congr {α : Type} {f g : α → Bool} : ∀ {xs : List α}, (∀ x ∈ xs, f x = g x) → xs.find? f = xs.find? g
  | [], _ => rfl
  | x :: xs, h => by
    rw [List.find?_cons, List.find?_cons, h x List.mem_cons_self, find_congr fun y hy => h y (List.mem_cons_of_mem _ hy)]
theorem dfs_find {n : Int} {L : Rd} {k : Int} : ∀ (r : Nat) (p : List Int), dfs n L k r p = ((lsx k r).find? (okp n L p)).map (p ++ ·)
  | 0, p => by
    show some p = Option.map (p ++ ·) (some [])
    rw [Option.map_some, List.append_nil]
  | r + 1, p => by
    unfold dfs kids lsx
    rw [List.find?_flatMap]
    generalize rng 0 k = ds
    induction ds with
    | nil => rfl
    | cons d ds ih =>
      rw [List.filter_cons, List.findSome?_cons, List.find?_map]
      cases ht : tg n (op L (p ++ [d]) d) with
      | true =>
        rw [if_pos rfl, List.map_cons, List.findSome?_cons, dfs_find r (p ++ [d])]
        have e : (okp n L p ∘ fun x => d :: x) = okp n L (p ++ [d]) := by
          funext u
          show (tg n (op L (p ++ [d]) d) && okp n L (p ++ [d]) u) = _
          rw [ht, Bool.true_and]
        rw [e]
        cases (lsx k r).find? (okp n L (p ++ [d])) with
        | none => exact ih
        | some u =>
          show some (p ++ [d] ++ u) = some (p ++ (d :: u))
          rw [List.append_assoc]; rfl
      | false =>
        rw [if_neg Bool.false_ne_true]
        have e : (okp n L p ∘ fun x => d :: x) = fun _ => false := by
          funext u
          show (tg n (op L (p ++ [d]) d) && okp n L (p ++ [d]) u) = _
          rw [ht, Bool.false_and]
        have e2 : (lsx k r).find? (fun _ => false) = none := List.find?_eq_none.mpr fun _ _ => by simp
        rw [e, e2]
        exact ih
theorem okp_snoc {n : Int} {L : Rd} {d : Int} : ∀ {u p : List Int}, okp n L p (u ++ [d]) = (okp n L p u && tg n (op L (p ++ u ++ [d]) d))
  | [], p => by
    show (tg n (op L (p ++ [d]) d) && true) = (true && tg n (op L (p ++ [] ++ [d]) d))
    rw [List.append_nil, Bool.and_true, Bool.true_and]
  | e :: u, p => by
    show (tg n (op L (p ++ [e]) e) && okp n L (p ++ [e]) (u ++ [d])) = ((tg n (op L (p ++ [e]) e) && okp n L (p ++ [e]) u) && tg n (op L (p ++ (e :: u) ++ [d]) d))
    rw [okp_snoc, Bool.and_assoc, List.append_assoc p [e] u]
    rfl
theorem okp_all {n : Int} {L : Rd} (hL : tg n L = true) : ∀ (m : Nat) (u : List Int), u.length = m → (okp n L [] u = true ↔ ∀ d, tg n (op L u d) = true)
  | 0, u, hu => by
    have : u = [] := List.length_eq_zero_iff.mp hu
    subst this
    refine ⟨fun _ d => ?_, fun _ => rfl⟩
    refine tg_mono (fun r hr => ?_) hL
    obtain ⟨k, hk⟩ := List.mem_iff_getElem?.mp hr
    exact mem_op.mpr ⟨k, hk, by simp⟩
  | m + 1, u, hu => by
    obtain ⟨v, e, rfl⟩ : ∃ v e, u = v ++ [e] := by
      rcases List.eq_nil_or_concat u with rfl | ⟨v, e, h⟩
      · simp at hu
      · exact ⟨v, e, by rw [h, List.concat_eq_append]⟩
    have lv : v.length = m := by rw [List.length_append, List.length_singleton] at hu; omega
    have ih := okp_all hL m v lv
    rw [okp_snoc, Bool.and_eq_true, ih, List.nil_append]
    have sub : ∀ d r, r ∈ op L (v ++ [e]) d → r ∈ op L v d := by
      intro d r hr
      obtain ⟨k, a, b⟩ := mem_op.mp hr
      refine mem_op.mpr ⟨k, a, fun c => b ?_⟩
      rw [List.getElem?_append_left (List.getElem?_eq_some_iff.mp c).1]
      exact c
    constructor
    · rintro ⟨a, b⟩ d
      by_cases c : d = e
      · rw [c]; exact b
      · refine tg_mono (fun r hr => ?_) (a d)
        obtain ⟨k, x, y⟩ := mem_op.mp hr
        refine mem_op.mpr ⟨k, x, fun z => y ?_⟩
        by_cases lt : k < v.length
        · rw [List.getElem?_append_left lt] at z; exact z
        · rw [List.getElem?_append_right (by omega)] at z
          have : k - v.length = 0 := by
            have := (List.getElem?_eq_some_iff.mp z).1
            rw [List.length_singleton] at this
            omega
          rw [this] at z
          exact absurd (Option.some.inj z).symm c
    · intro a
      exact ⟨fun d => tg_mono (sub d) (a d), a e⟩
theorem mem_lsx {k : Int} : ∀ {m : Nat} {u : List Int}, u ∈ lsx k m ↔ u.length = m ∧ ∀ x ∈ u, 0 ≤ x ∧ x < k
  | 0, u => by
    show u ∈ [[]] ↔ _
    rw [List.mem_singleton]
    constructor
    · rintro rfl; exact ⟨rfl, fun x hx => absurd hx List.not_mem_nil⟩
    · rintro ⟨h, _⟩; exact List.length_eq_zero_iff.mp h
  | m + 1, u => by
    show u ∈ List.flatMap _ _ ↔ _
    rw [List.mem_flatMap]
    constructor
    · rintro ⟨d, hd, hu⟩
      obtain ⟨v, hv, rfl⟩ := List.mem_map.mp hu
      obtain ⟨a, b⟩ := mem_lsx.mp hv
      refine ⟨by rw [List.length_cons, a], fun x hx => ?_⟩
      rcases List.mem_cons.mp hx with rfl | hx
      · exact mem_rng.mp hd
      · exact b x hx
    · rintro ⟨a, b⟩
      cases u with
      | nil => simp at a
      | cons d v =>
        refine ⟨d, mem_rng.mpr (b d List.mem_cons_self), List.mem_map.mpr ⟨v, mem_lsx.mpr ⟨by rw [List.length_cons] at a; omega, fun x hx => b x (List.mem_cons_of_mem _ hx)⟩, rfl⟩⟩
theorem hold_tg {n : Int} {L : Rd} {k : Int} {t : List Int} (k1 : 1 ≤ k) (h : hold n L k t = true) : tg n L = true := tg_mono (fun _ hr => op_sub hr) ((hold_iff.mp h).2.2 0 (by omega) (by omega))
theorem dfs_due {n : Int} {L : Rd} {k : Int} (k1 : 1 ≤ k) (hL : tg n L = true) : dfs n L k L.length [] = (lsx k L.length).find? (hold n L k) := by
  rw [dfs_find]
  have : (lsx k L.length).find? (okp n L []) = (lsx k L.length).find? (hold n L k) := by
    refine find_congr fun u hu => ?_
    obtain ⟨a, b⟩ := mem_lsx.mp hu
    rw [Bool.eq_iff_iff, okp_all hL _ u rfl, hold_iff]
    constructor
    · intro h; exact ⟨a, b, fun d _ _ => h d⟩
    · rintro ⟨_, _, h⟩ d
      by_cases c : 0 ≤ d ∧ d < k
      · exact h d c.1 c.2
      · refine tg_mono (fun r hr => ?_) hL
        obtain ⟨j, hj⟩ := List.mem_iff_getElem?.mp hr
        exact mem_op.mpr ⟨j, hj, fun z => c (b d (List.mem_iff_getElem?.mpr ⟨j, z⟩))⟩
  rw [this]
  cases (lsx k L.length).find? (hold n L k) <;> rfl
/-! ### rifts and turns: no turns beside a rift -/
def InO (n : Int) (L : Rd) : Prop := ∀ r ∈ L, 0 ≤ r.1 ∧ r.1 < r.2 ∧ r.2 < n
theorem InO.r {n : Int} {L : Rd} (h : InO n L) : InR n L := fun r hr => by have := h r hr; omega
def prs (n : Int) : Rd := (rng 0 n).flatMap fun b => (rng 0 b).map fun a => (a, b)
theorem mem_prs {n : Int} {r : Int × Int} : r ∈ prs n ↔ 0 ≤ r.1 ∧ r.1 < r.2 ∧ r.2 < n := by
  unfold prs
  rw [List.mem_flatMap]
  constructor
  · rintro ⟨b, hb, h⟩
    obtain ⟨a, ha, rfl⟩ := List.mem_map.mp h
    have := mem_rng.mp hb
    have := mem_rng.mp ha
    simp only; omega
  · rintro ⟨h1, h2, h3⟩
    exact ⟨r.2, mem_rng.mpr ⟨by omega, h3⟩, List.mem_map.mpr ⟨r.1, mem_rng.mpr ⟨h1, h2⟩, rfl⟩⟩
theorem prs_nd : ∀ n ∈ [(1 : Int), 2, 3, 4], (prs n).Nodup := by decide +kernel
def sbs : Rd → List Rd
  | [] => [[]]
  | x :: xs => (sbs xs).flatMap fun l => [l, x :: l]
theorem filter_sbs {f : Int × Int → Bool} : ∀ xs : Rd, xs.filter f ∈ sbs xs
  | [] => List.mem_singleton.mpr rfl
  | x :: xs => by
    refine List.mem_flatMap.mpr ⟨xs.filter f, filter_sbs xs, ?_⟩
    rw [List.filter_cons]
    split
    · exact List.mem_cons_of_mem _ List.mem_cons_self
    · exact List.mem_cons_self
theorem btw_all : ∀ n ∈ [(1 : Int), 2, 3, 4], ∀ M ∈ sbs (prs n), m__law_together n M = some true → ∀ s ∈ evs n, top s ≤ (btw M s : Int) := by decide +kernel
theorem tg_btw {n : Int} {L : Rd} (hn : n ∈ [(1 : Int), 2, 3, 4]) (hL : InO n L) (h : tg n L = true) {s : List Int} (hs : s ∈ evs n) : top s ≤ (btw L s : Int) := by
  have n1 : 1 ≤ n ∧ n ≤ 4 := by simp only [List.mem_cons, List.not_mem_nil, or_false] at hn; omega
  have mm : ∀ r, r ∈ (prs n).filter (fun r => decide (r ∈ L)) ↔ r ∈ L := by
    intro r
    rw [List.mem_filter, decide_eq_true_iff]
    exact ⟨fun h => h.2, fun h => ⟨mem_prs.mpr (hL r h), h⟩⟩
  have e : m__law_together n ((prs n).filter (fun r => decide (r ∈ L))) = some true := by
    rw [law_tg n1.1 (by omega) fun r hr => hL.r r ((mm r).mp hr), tg_same mm, h]
  have a := btw_all n hn _ (filter_sbs (prs n)) e s hs
  have b : btw ((prs n).filter (fun r => decide (r ∈ L))) s ≤ btw L s := by
    unfold btw
    refine nodup_len (List.Pairwise.filter _ (List.Pairwise.filter _ (prs_nd n hn))) fun r hr => ?_
    obtain ⟨c, d⟩ := List.mem_filter.mp hr
    exact List.mem_filter.mpr ⟨(mm r).mp c, d⟩
  omega
theorem enumI_cons {α : Type} {x : α} {xs : List α} : enumI (x :: xs) = (0, x) :: (enumI xs).map fun p => (p.1 + 1, p.2) := by
  unfold enumI
  rw [List.mapIdx_cons]
  refine congrArg (_ :: ·) (List.ext_getElem? fun k => ?_)
  rw [List.getElem?_map, List.getElem?_mapIdx, List.getElem?_mapIdx]
  cases xs[k]? with
  | none => rfl
  | some y => rfl
theorem op_cons {r : Int × Int} {L : Rd} {e d : Int} {t : List Int} : op (r :: L) (e :: t) d = if e = d then op L t d else r :: op L t d := by
  have tail : (((enumI L).map fun p => (p.1 + 1, p.2)).filter fun p : Int × Int × Int => !decide ((e :: t)[p.1.toNat]? = some d)).map (·.2) = op L t d := by
    unfold op
    rw [List.filter_map, List.map_map]
    have : (enumI L).filter ((fun p : Int × Int × Int => !decide ((e :: t)[p.1.toNat]? = some d)) ∘ fun p => (p.1 + 1, p.2)) = (enumI L).filter fun p => !decide (t[p.1.toNat]? = some d) := by
      refine List.filter_congr fun p hp => ?_
      obtain ⟨k, e1, _⟩ := mem_enumI.mp hp
      show (!decide ((e :: t)[(p.1 + 1).toNat]? = some d)) = _
      have : (p.1 + 1).toNat = p.1.toNat + 1 := by omega
      rw [this, List.getElem?_cons_succ]
    rw [this]
    rfl
  rw [← tail]
  unfold op
  rw [enumI_cons, List.filter_cons]
  show List.map _ (if (!decide (some e = some d)) = true then _ else _) = _
  by_cases c : e = d
  · rw [if_neg (by simp [c]), if_pos c]
  · rw [if_pos (by simp [c]), if_neg c]; rfl
theorem btw_cons {r : Int × Int} {L : Rd} {s : List Int} : btw (r :: L) s = (if gd s r.1 = gd s r.2 then 0 else 1) + btw L s := by
  unfold btw
  rw [List.filter_cons]
  by_cases c : gd s r.1 = gd s r.2
  · rw [if_neg (by simp [c]), if_pos c]; omega
  · rw [if_pos (by simp [c]), if_neg c, List.length_cons]; omega
theorem op_nil {t : List Int} {d : Int} : op [] t d = [] := rfl
theorem sum3 {s : List Int} : ∀ {L : Rd} {t : List Int}, t.length = L.length → (∀ x ∈ t, 0 ≤ x ∧ x < 3) → btw (op L t 0) s + btw (op L t 1) s + btw (op L t 2) s = 2 * btw L s
  | [], [], _, _ => rfl
  | [], _ :: _, h, _ => by simp at h
  | _ :: _, [], h, _ => by simp at h
  | r :: L, e :: t, h, hb => by
    have ih := sum3 (s := s) (L := L) (t := t) (by simpa using h) fun x hx => hb x (List.mem_cons_of_mem _ hx)
    have be := hb e List.mem_cons_self
    rw [op_cons, op_cons, op_cons, btw_cons]
    obtain rfl | rfl | rfl : e = 0 ∨ e = 1 ∨ e = 2 := by omega
    · rw [if_pos rfl, if_neg (by omega), if_neg (by omega), btw_cons, btw_cons]; omega
    · rw [if_neg (by omega), if_pos rfl, if_neg (by omega), btw_cons, btw_cons]; omega
    · rw [if_neg (by omega), if_neg (by omega), if_pos rfl, btw_cons, btw_cons]; omega
theorem op_not {d : Int} : ∀ {L : Rd} {t : List Int}, t.length = L.length → d ∉ t → op L t d = L
  | [], [], _, _ => rfl
  | [], _ :: _, h, _ => by simp at h
  | _ :: _, [], h, _ => by simp at h
  | r :: L, e :: t, h, hd => by
    rw [op_cons, if_neg fun c => hd (by rw [c]; exact List.mem_cons_self), op_not (by simpa using h) fun c => hd (List.mem_cons_of_mem _ c)]
theorem hold_rf {n : Int} {L : Rd} {k : Int} {t : List Int} (hn : n ∈ [(1 : Int), 2, 3, 4]) (hk : k ∈ [(1 : Int), 2, 3]) (hL : InO n L) (h : hold n L k t = true) (s : List Int) : rf n L k s = false := by
  by_cases hs : s ∈ evs n
  · obtain ⟨h1, h2, h3⟩ := hold_iff.mp h
    have kk : k = 1 ∨ k = 2 ∨ k = 3 := by simpa using hk
    have b : ∀ d, 0 ≤ d → d < k → top s ≤ (btw (op L t d) s : Int) := fun d a c => tg_btw hn (fun r hr => hL r (op_sub hr)) (h3 d a c) hs
    have sm := sum3 (s := s) h1 fun x hx => by have := h2 x hx; omega
    have nt : ∀ d, k ≤ d → btw (op L t d) s = btw L s := fun d hd => by rw [op_not h1 fun m => by have := h2 d m; omega]
    unfold rf
    rw [decide_eq_true hs, Bool.true_and, Bool.and_eq_false_iff]
    right
    rw [decide_eq_false_iff_not]
    rcases kk with rfl | rfl | rfl
    · have := b 0 (by omega) (by omega); have := nt 1 (by omega); have := nt 2 (by omega); omega
    · have := b 0 (by omega) (by omega); have := b 1 (by omega) (by omega); have := nt 2 (by omega); omega
    · have := b 0 (by omega) (by omega); have := b 1 (by omega) (by omega); have := b 2 (by omega) (by omega); omega
  · unfold rf; rw [decide_eq_false hs, Bool.false_and]
/-! ### turns where there is no rift: each multiset of roads has a witness -/
def wt11 : List Nat := [100]
def wt12 : List Nat := [100]
def wt13 : List Nat := [100]
def wt21 : List Nat := [1, 1, 1, 1, 1, 1, 1]
def wt22 : List Nat := [1, 1, 101, 101, 101, 101, 101]
def wt23 : List Nat := [1, 1, 101, 101, 101, 101, 101]
def wt31 : List Nat := [1, 1, 1, 1, 1, 1, 1, 1, 1, 1, 1, 1, 1, 1, 1, 1, 1, 1, 1, 1, 1, 1, 1, 1, 1, 1, 1, 1, 1, 1, 1, 1, 1, 1, 1, 1, 1, 1, 1, 1, 1, 1, 1, 1, 1, 1, 1, 1, 1, 1, 1, 1, 1, 1, 1, 1, 1, 1, 1, 1, 1, 1, 1, 1, 1, 1, 1, 1, 1, 1, 1, 1, 1, 1, 1, 1, 1, 1, 1, 1, 1, 1, 1, 1]
def wt32 : List Nat := [1, 1, 1, 1, 3, 2, 2, 1, 1, 1, 3, 3, 2, 2, 3, 4, 2, 1, 1, 1, 3, 3, 105, 2, 2, 3, 105, 103, 2, 105, 105, 105, 1, 1, 1, 3, 3, 109, 105, 2, 2, 3, 109, 105, 103, 2, 109, 105, 103, 109, 105, 105, 105, 1, 1, 1, 3, 3, 117, 109, 105, 2, 2, 3, 117, 109, 105, 103, 2, 117, 109, 105, 103, 117, 109, 105, 103, 109, 105, 105, 105, 1, 1, 1]
def wt33 : List Nat := [1, 1, 1, 1, 3, 2, 2, 1, 1, 1, 3, 3, 2, 2, 3, 105, 2, 1, 1, 1, 3, 3, 110, 2, 2, 3, 110, 104, 2, 110, 105, 110, 1, 1, 1, 3, 3, 128, 110, 2, 2, 3, 128, 110, 104, 2, 128, 110, 104, 128, 110, 105, 110, 1, 1, 1, 3, 3, 182, 128, 110, 2, 2, 3, 182, 128, 110, 104, 2, 182, 128, 110, 104, 182, 128, 110, 104, 128, 110, 105, 110, 1, 1, 1]
def wt41 : List Nat := [1, 1, 1, 1, 1, 1, 1, 1, 1, 1, 1, 1, 1, 1, 1, 1, 1, 1, 1, 1, 1, 1, 1, 1, 1, 1, 1, 1, 1, 1, 1, 1, 1, 1, 1, 1, 1, 1, 1, 1, 1, 1, 1, 1, 1, 1, 1, 1, 1, 1, 1, 1, 1, 1, 1, 1, 1, 1, 1, 1, 1, 1, 1, 1, 1, 1, 1, 1, 1, 1, 1, 1, 1, 1, 1, 1, 1, 1, 1, 1, 1, 1, 1, 1, 1, 1, 1, 1, 1, 1, 1, 1, 1, 1, 1, 1, 1, 1, 1, 1, 1, 1, 1, 1, 1, 1, 1, 1, 1, 1, 1, 1, 1, 1, 1, 1, 1, 1, 1, 1, 1, 1, 1, 1, 1, 1, 1, 1, 1, 1, 1, 1, 1, 1, 1, 1, 1, 1, 1, 1, 1, 1, 1, 1, 1, 1, 1, 1, 1, 1, 1, 1, 1, 1, 1, 1, 1, 1, 1, 1, 1, 1, 1, 1, 1, 1, 1, 1, 1, 1, 1, 1, 1, 1, 1, 1, 1, 1, 1, 1, 1, 1, 1, 1, 1, 1, 1, 1, 1, 1, 1, 1, 1, 1, 1, 1, 1, 1, 1, 1, 1, 1, 1, 1, 1, 1, 1, 1, 1, 1, 1, 1, 1, 1, 1, 1, 1, 1, 1, 1, 1, 1, 1, 1, 1, 1, 1, 1, 1, 1, 1, 1, 1, 1, 1, 1, 1, 1, 1, 1, 1, 1, 1, 1, 1, 1, 1, 1, 1, 1, 1, 1, 1, 1, 1, 1, 1, 1, 1, 1, 1, 1, 1, 1, 1, 1, 1, 1, 1, 1, 1, 1, 1, 1, 1, 1, 1, 1, 1, 1, 1, 1, 1, 1, 1, 1, 1, 1, 1, 1, 1, 1, 1, 1, 1, 1, 1, 1, 1, 1, 1, 1, 1, 1, 1, 1, 1, 1, 1, 1, 1, 1, 1, 1, 1, 1, 1, 1, 1, 1, 1, 1, 1, 1, 1, 1, 1, 1, 1, 1, 1, 1, 1, 1, 1, 1, 1, 1, 1, 1, 1, 1, 1, 1, 1, 1, 1, 1, 1, 1, 1, 1, 1, 1, 1, 1, 1, 1, 1, 1, 1, 1, 1, 1, 1, 1, 1, 1, 1, 1, 1, 1, 1, 1, 1, 1, 1, 1, 1, 1, 1, 1, 1, 1, 1, 1, 1, 1, 1, 1, 1, 1, 1, 1, 1, 1, 1, 1, 1, 1, 1, 1, 1, 1, 1, 1, 1, 1, 1, 1, 1, 1, 1, 1, 1, 1, 1, 1, 1, 1, 1, 1, 1, 1, 1, 1, 1, 1, 1, 1, 1, 1, 1, 1, 1, 1, 1, 1, 1, 1, 1, 1, 1, 1, 1, 1, 1, 1, 1, 1, 1, 1, 1, 1, 1, 1, 1, 1, 1, 1, 1, 1, 1, 1, 1, 1, 1, 1, 1, 1, 1, 1, 1, 1, 1, 1, 1, 1, 1, 1, 1, 1, 1, 1, 1, 1, 1, 1, 1, 1, 1, 1, 1, 1, 1, 1, 1, 1, 1, 1, 1, 1, 1, 1, 1, 1, 1, 1, 1, 1, 1, 1, 1, 1, 1, 1, 1, 1, 1, 1, 1, 1, 1, 1, 1, 1, 1, 1, 1, 1, 1, 1, 1, 1, 1, 1, 1, 1, 1, 1, 1, 1, 1, 1, 1, 1, 1, 1, 1, 1, 1, 1, 1, 1, 1, 1, 1, 1, 1, 1, 1, 1, 1, 1, 1, 1, 1, 1, 1, 1, 1, 1, 1, 1, 1, 1, 1, 1, 1, 1, 1, 1, 1, 1, 1, 1, 1, 1, 1, 1, 1, 1, 1, 1, 1, 1, 1, 1, 1, 1, 1, 1, 1, 1, 1, 1, 1, 1, 1, 1, 1, 1, 1, 1, 1, 1, 1, 1, 1, 1, 1, 1, 1, 1, 1, 1, 1, 1, 1, 1, 1, 1, 1, 1, 1, 1, 1, 1, 1, 1, 1, 1, 1, 1, 1, 1, 1, 1, 1, 1, 1, 1, 1, 1, 1, 1, 1, 1, 1, 1, 1, 1, 1, 1, 1, 1, 1, 1, 1, 1, 1, 1, 1, 1, 1, 1, 1, 1, 1, 1, 1, 1, 1, 1, 1, 1, 1, 1, 1, 1, 1, 1, 1, 1, 1, 1, 1, 1, 1, 1, 1, 1, 1, 1, 1, 1, 1, 1, 1, 1, 1, 1, 1, 1, 1, 1, 1, 1, 1, 1, 1, 1, 1, 1, 1, 1, 1, 1, 1, 1, 1, 1, 1, 1, 1, 1, 1, 1, 1, 1, 1, 1, 1, 1, 1, 1, 1, 1, 1, 1, 1, 1, 1, 1, 1, 1, 1, 1, 1, 1, 1, 1, 1, 1, 1, 1, 1, 1, 1, 1, 1, 1, 1, 1, 1, 1, 1, 1, 1, 1, 1, 1, 1, 1, 1, 1, 1, 1, 1, 1, 1, 1, 1, 1, 1, 1, 1, 1, 1, 1, 1, 1, 1, 1, 1, 1, 1, 1, 1, 1, 1, 1, 1, 1, 1, 1, 1, 1, 1, 1, 1, 1, 1, 1, 1, 1, 1, 1, 1, 1, 1, 1, 1, 1, 1, 1, 1, 1, 1, 1, 1, 1, 1, 1, 1, 1, 1, 1, 1, 1, 1, 1, 1, 1, 1, 1, 1, 1, 1, 1, 1, 1, 1, 1, 1, 1, 1, 1, 1, 1, 1, 1, 1, 1, 1, 1, 1, 1, 1, 1, 1, 1, 1, 1, 1, 1, 1, 1, 1, 1, 1, 1, 1, 1, 1, 1, 1, 1, 1, 1, 1, 1, 1, 1, 1, 1, 1, 1, 1, 1, 1, 1, 1, 1, 1, 1, 1, 1, 1, 1, 1, 1, 1, 1]
def wt42 : List Nat := [1, 1, 1, 1, 1, 1, 1, 3, 2, 2, 2, 2, 2, 1, 1, 1, 1, 1, 1, 1, 1, 1, 1, 1, 1, 1, 1, 1, 3, 3, 2, 2, 3, 2, 2, 2, 2, 2, 3, 4, 2, 4, 2, 2, 1, 1, 1, 1, 3, 4, 2, 4, 2, 2, 1, 1, 1, 1, 1, 1, 1, 1, 1, 3, 2, 2, 2, 2, 2, 1, 1, 1, 1, 1, 1, 1, 1, 1, 1, 1, 1, 1, 1, 1, 3, 3, 9, 2, 2, 3, 5, 2, 2, 5, 2, 2, 2, 2, 2, 3, 9, 9, 2, 5, 9, 2, 5, 2, 2, 9, 9, 9, 8, 8, 8, 1, 1, 1, 1, 3, 5, 6, 2, 5, 5, 2, 5, 2, 2, 5, 7, 6, 5, 7, 5, 1, 1, 1, 1, 5, 5, 6, 5, 5, 5, 1, 1, 1, 1, 1, 1, 1, 1, 1, 3, 3, 2, 2, 3, 2, 2, 2, 2, 2, 3, 4, 2, 4, 2, 2, 1, 1, 1, 1, 3, 4, 2, 4, 2, 2, 1, 1, 1, 1, 1, 1, 1, 1, 1, 3, 2, 2, 2, 2, 2, 1, 1, 1, 1, 1, 1, 1, 1, 1, 1, 1, 1, 1, 1, 1, 3, 3, 9, 9, 2, 2, 3, 5, 9, 2, 2, 5, 5, 2, 2, 5, 2, 2, 2, 2, 2, 3, 9, 9, 9, 2, 5, 9, 9, 2, 5, 11, 2, 5, 2, 2, 9, 9, 9, 9, 9, 9, 9, 8, 8, 8, 9, 9, 9, 8, 8, 8, 1, 1, 1, 1, 3, 5, 9, 6, 2, 5, 5, 12, 2, 5, 5, 2, 5, 2, 2, 5, 9, 9, 6, 5, 14, 12, 5, 11, 5, 9, 9, 9, 10, 10, 8, 1, 1, 1, 1, 5, 5, 6, 6, 5, 5, 6, 5, 5, 5, 5, 7, 6, 5, 7, 5, 1, 1, 1, 1, 5, 5, 6, 5, 5, 5, 1, 1, 1, 1, 1, 1, 1, 1, 1, 3, 3, 9, 2, 2, 3, 13, 2, 2, 5, 2, 2, 2, 2, 2, 3, 9, 9, 2, 13, 14, 2, 11, 2, 2, 9, 9, 9, 10, 10, 8, 1, 1, 1, 1, 3, 13, 12, 2, 5, 14, 2, 5, 2, 2, 13, 14, 12, 14, 14, 11, 1, 1, 1, 1, 5, 7, 6, 5, 7, 5, 1, 1, 1, 1, 1, 1, 1, 1, 1, 3, 3, 2, 2, 3, 2, 2, 2, 2, 2, 3, 4, 2, 4, 2, 2, 1, 1, 1, 1, 3, 4, 2, 4, 2, 2, 1, 1, 1, 1, 1, 1, 1, 1, 1, 3, 2, 2, 2, 2, 2, 1, 1, 1, 1, 1, 1, 1, 1, 1, 1, 1, 1, 1, 1, 1, 3, 3, 9, 9, 9, 2, 2, 3, 5, 9, 9, 2, 2, 5, 5, 121, 2, 2, 5, 5, 2, 2, 5, 2, 2, 2, 2, 2, 3, 9, 9, 9, 9, 2, 5, 9, 9, 9, 2, 5, 113, 111, 2, 5, 11, 2, 5, 2, 2, 9, 9, 9, 9, 9, 9, 9, 9, 9, 121, 121, 121, 8, 8, 8, 9, 9, 9, 9, 9, 9, 9, 8, 8, 8, 9, 9, 9, 8, 8, 8, 1, 1, 1, 1, 3, 5, 9, 9, 6, 2, 5, 5, 121, 12, 2, 5, 5, 111, 2, 5, 5, 2, 5, 2, 2, 5, 9, 9, 9, 6, 5, 113, 111, 12, 5, 107, 121, 5, 11, 5, 9, 9, 9, 9, 113, 113, 113, 111, 111, 8, 9, 9, 9, 10, 10, 8, 1, 1, 1, 1, 5, 5, 121, 6, 6, 5, 5, 119, 6, 5, 5, 121, 5, 5, 5, 5, 121, 119, 6, 5, 119, 121, 5, 119, 5, 121, 121, 121, 121, 121, 121, 1, 1, 1, 1, 5, 5, 6, 6, 5, 5, 6, 5, 5, 5, 5, 7, 6, 5, 7, 5, 1, 1, 1, 1, 5, 5, 6, 5, 5, 5, 1, 1, 1, 1, 1, 1, 1, 1, 1, 3, 3, 9, 9, 2, 2, 3, 13, 121, 2, 2, 5, 113, 2, 2, 5, 2, 2, 2, 2, 2, 3, 9, 9, 9, 2, 13, 113, 111, 2, 121, 107, 2, 11, 2, 2, 9, 9, 9, 9, 113, 113, 113, 111, 111, 8, 9, 9, 9, 10, 10, 8, 1, 1, 1, 1, 3, 13, 121, 12, 2, 5, 113, 111, 2, 5, 107, 2, 5, 2, 2, 13, 121, 119, 12, 113, 113, 113, 111, 111, 11, 121, 121, 121, 121, 121, 121, 1, 1, 1, 1, 5, 113, 111, 6, 5, 111, 113, 5, 111, 5, 113, 113, 113, 113, 113, 113, 1, 1, 1, 1, 5, 7, 6, 5, 7, 5, 1, 1, 1, 1, 1, 1, 1, 1, 1, 3, 3, 121, 2, 2, 3, 121, 2, 2, 121, 2, 2, 2, 2, 2, 3, 121, 119, 2, 121, 119, 2, 119, 2, 2, 121, 121, 121, 121, 121, 121, 1, 1, 1, 1, 3, 121, 119, 2, 121, 119, 2, 119, 2, 2, 121, 121, 121, 121, 121, 121, 1, 1, 1, 1, 121, 121, 121, 121, 121, 121, 1, 1, 1, 1, 1, 1, 1, 1, 1, 3, 3, 2, 2, 3, 2, 2, 2, 2, 2, 3, 4, 2, 4, 2, 2, 1, 1, 1, 1, 3, 4, 2, 4, 2, 2, 1, 1, 1, 1, 1, 1, 1, 1, 1, 3, 2, 2, 2, 2, 2, 1, 1, 1, 1, 1, 1, 1, 1, 1, 1, 1, 1, 1, 1, 1]
def wt43 : List Nat := [1, 1, 1, 1, 1, 1, 1, 3, 2, 2, 2, 2, 2, 1, 1, 1, 1, 1, 1, 1, 1, 1, 1, 1, 1, 1, 1, 1, 3, 3, 2, 2, 3, 2, 2, 2, 2, 2, 3, 9, 2, 5, 2, 2, 1, 1, 1, 1, 3, 5, 2, 5, 2, 2, 1, 1, 1, 1, 1, 1, 1, 1, 1, 3, 2, 2, 2, 2, 2, 1, 1, 1, 1, 1, 1, 1, 1, 1, 1, 1, 1, 1, 1, 1, 3, 3, 9, 2, 2, 3, 5, 2, 2, 5, 2, 2, 2, 2, 2, 3, 9, 9, 2, 5, 9, 2, 5, 2, 2, 9, 9, 9, 8, 8, 8, 1, 1, 1, 1, 3, 5, 6, 2, 5, 5, 2, 5, 2, 2, 5, 9, 6, 5, 14, 5, 1, 1, 1, 1, 5, 5, 6, 5, 5, 5, 1, 1, 1, 1, 1, 1, 1, 1, 1, 3, 3, 2, 2, 3, 2, 2, 2, 2, 2, 3, 9, 2, 14, 2, 2, 1, 1, 1, 1, 3, 14, 2, 5, 2, 2, 1, 1, 1, 1, 1, 1, 1, 1, 1, 3, 2, 2, 2, 2, 2, 1, 1, 1, 1, 1, 1, 1, 1, 1, 1, 1, 1, 1, 1, 1, 3, 3, 9, 9, 2, 2, 3, 5, 9, 2, 2, 5, 5, 2, 2, 5, 2, 2, 2, 2, 2, 3, 9, 9, 9, 2, 5, 9, 9, 2, 5, 114, 2, 5, 2, 2, 9, 9, 9, 9, 9, 9, 9, 8, 8, 8, 9, 9, 9, 8, 8, 8, 1, 1, 1, 1, 3, 5, 9, 6, 2, 5, 5, 132, 2, 5, 5, 2, 5, 2, 2, 5, 9, 9, 6, 5, 114, 146, 5, 132, 5, 9, 9, 9, 114, 114, 8, 1, 1, 1, 1, 5, 5, 6, 6, 5, 5, 6, 5, 5, 5, 5, 132, 6, 5, 132, 5, 1, 1, 1, 1, 5, 5, 6, 5, 5, 5, 1, 1, 1, 1, 1, 1, 1, 1, 1, 3, 3, 9, 2, 2, 3, 146, 2, 2, 5, 2, 2, 2, 2, 2, 3, 9, 9, 2, 146, 114, 2, 132, 2, 2, 9, 9, 9, 114, 114, 8, 1, 1, 1, 1, 3, 146, 132, 2, 5, 114, 2, 5, 2, 2, 146, 132, 146, 114, 114, 146, 1, 1, 1, 1, 5, 114, 6, 5, 114, 5, 1, 1, 1, 1, 1, 1, 1, 1, 1, 3, 3, 2, 2, 3, 2, 2, 2, 2, 2, 3, 132, 2, 132, 2, 2, 1, 1, 1, 1, 3, 132, 2, 132, 2, 2, 1, 1, 1, 1, 1, 1, 1, 1, 1, 3, 2, 2, 2, 2, 2, 1, 1, 1, 1, 1, 1, 1, 1, 1, 1, 1, 1, 1, 1, 1, 3, 3, 9, 9, 9, 2, 2, 3, 5, 9, 9, 2, 2, 5, 5, 191, 2, 2, 5, 5, 2, 2, 5, 2, 2, 2, 2, 2, 3, 9, 9, 9, 9, 2, 5, 9, 9, 9, 2, 5, 137, 131, 2, 5, 114, 2, 5, 2, 2, 9, 9, 9, 9, 9, 9, 9, 9, 9, 191, 114, 191, 8, 8, 8, 9, 9, 9, 9, 9, 9, 9, 8, 8, 8, 9, 9, 9, 8, 8, 8, 1, 1, 1, 1, 3, 5, 9, 9, 6, 2, 5, 5, 191, 186, 2, 5, 5, 131, 2, 5, 5, 2, 5, 2, 2, 5, 9, 9, 9, 6, 5, 137, 131, 236, 5, 113, 191, 5, 186, 5, 9, 9, 9, 9, 137, 114, 137, 131, 131, 8, 9, 9, 9, 114, 114, 8, 1, 1, 1, 1, 5, 5, 191, 6, 6, 5, 5, 132, 6, 5, 5, 191, 5, 5, 5, 5, 191, 185, 6, 5, 114, 146, 5, 132, 5, 191, 186, 191, 114, 114, 191, 1, 1, 1, 1, 5, 5, 6, 6, 5, 5, 6, 5, 5, 5, 5, 132, 6, 5, 132, 5, 1, 1, 1, 1, 5, 5, 6, 5, 5, 5, 1, 1, 1, 1, 1, 1, 1, 1, 1, 3, 3, 9, 9, 2, 2, 3, 236, 191, 2, 2, 5, 137, 2, 2, 5, 2, 2, 2, 2, 2, 3, 9, 9, 9, 2, 236, 137, 131, 2, 191, 113, 2, 186, 2, 2, 9, 9, 9, 9, 137, 114, 137, 131, 131, 8, 9, 9, 9, 114, 114, 8, 1, 1, 1, 1, 3, 236, 191, 186, 2, 5, 137, 131, 2, 5, 113, 2, 5, 2, 2, 236, 191, 185, 236, 137, 114, 137, 131, 131, 236, 191, 186, 191, 114, 114, 191, 1, 1, 1, 1, 5, 137, 131, 6, 5, 114, 137, 5, 131, 5, 137, 132, 137, 114, 114, 137, 1, 1, 1, 1, 5, 114, 6, 5, 114, 5, 1, 1, 1, 1, 1, 1, 1, 1, 1, 3, 3, 191, 2, 2, 3, 146, 2, 2, 191, 2, 2, 2, 2, 2, 3, 191, 185, 2, 146, 114, 2, 132, 2, 2, 191, 186, 191, 114, 114, 191, 1, 1, 1, 1, 3, 146, 132, 2, 191, 114, 2, 185, 2, 2, 146, 132, 146, 114, 114, 146, 1, 1, 1, 1, 191, 114, 191, 186, 114, 191, 1, 1, 1, 1, 1, 1, 1, 1, 1, 3, 3, 2, 2, 3, 2, 2, 2, 2, 2, 3, 132, 2, 132, 2, 2, 1, 1, 1, 1, 3, 132, 2, 132, 2, 2, 1, 1, 1, 1, 1, 1, 1, 1, 1, 3, 2, 2, 2, 2, 2, 1, 1, 1, 1, 1, 1, 1, 1, 1, 1, 1, 1, 1, 1, 1]
def wt (n k : Int) : List Nat :=
  if n = 1 then (if k = 1 then wt11 else if k = 2 then wt12 else wt13)
  else if n = 2 then (if k = 1 then wt21 else if k = 2 then wt22 else wt23)
  else if n = 3 then (if k = 1 then wt31 else if k = 2 then wt32 else wt33)
  else (if k = 1 then wt41 else if k = 2 then wt42 else wt43)
def mst : Rd → Nat → List Rd
  | [], 0 => [[]]
  | [], _ + 1 => []
  | e :: es, m => (List.range (m + 1)).flatMap fun c => (mst es (m - c)).map fun r => List.replicate c e ++ r
def dgs (k : Nat) : Nat → Nat → List Int
  | 0, _ => []
  | m + 1, x => dgs k m (x / k) ++ [((x % k : Nat) : Int)]
def rfq (L : Rd) (k : Int) (s : List Int) : Bool := !decide (top s = 0) && decide ((k - 1) * (btw L s : Int) < k * top s)
def wok (n k : Int) (ev : List (List Int)) (M : Rd) (w : Nat) : Bool :=
  if w < 100 then (match ev[w]? with | some s => rfq M k s | none => false)
  else decide (m__law_hold n M k (dgs k.toNat M.length (w - 100)) = some true)
def woks (n k : Int) (ev : List (List Int)) : List Rd → List Nat → Bool
  | [], _ => true
  | _ :: _, [] => false
  | M :: Ms, w :: ws => wok n k ev M w && woks n k ev Ms ws
theorem woks_all : ∀ n ∈ [(1 : Int), 2, 3, 4], ∀ k ∈ [(1 : Int), 2, 3], woks n k (evs n) ((List.range 7).flatMap (mst (prs n))) (wt n k) = true := by decide +kernel
theorem woks_mem {n k : Int} {ev : List (List Int)} : ∀ {Ms : List Rd} {ws : List Nat}, woks n k ev Ms ws = true → ∀ M ∈ Ms, ∃ w, wok n k ev M w = true
  | [], _, _, _, h => absurd h List.not_mem_nil
  | _ :: _, [], h, _, _ => by cases h
  | M :: Ms, w :: ws, h, X, hX => by
    unfold woks at h
    rw [Bool.and_eq_true] at h
    rcases List.mem_cons.mp hX with rfl | hX
    · exact ⟨w, h.1⟩
    · exact woks_mem h.2 X hX
theorem mem_mst : ∀ {es : Rd} {L : Rd}, (∀ r ∈ L, r ∈ es) → ∃ M, M ∈ mst es L.length ∧ M.Perm L
  | [], L, h => by
    have : L = [] := by
      cases L with
      | nil => rfl
      | cons r L => exact absurd (h r List.mem_cons_self) List.not_mem_nil
    subst this
    exact ⟨[], List.mem_singleton.mpr rfl, List.Perm.refl _⟩
  | e :: es, L, h => by
    obtain ⟨M, hM, pM⟩ := mem_mst (es := es) (L := L.filter fun r => !decide (r = e)) fun r hr => by
      obtain ⟨a, b⟩ := List.mem_filter.mp hr
      rcases List.mem_cons.mp (h r a) with c | c
      · simp [c] at b
      · exact c
    have pf : (L.filter (fun r => decide (r = e)) ++ L.filter fun r => !decide (r = e)).Perm L := List.filter_append_perm _ _
    have re : L.filter (fun r => decide (r = e)) = List.replicate (L.filter fun r => decide (r = e)).length e := List.eq_replicate_iff.mpr ⟨rfl, fun b hb => by have := (List.mem_filter.mp hb).2; exact decide_eq_true_iff.mp this⟩
    have ln := pf.length_eq
    rw [List.length_append] at ln
    refine ⟨List.replicate (L.filter fun r => decide (r = e)).length e ++ M, ?_, ?_⟩
    · refine List.mem_flatMap.mpr ⟨(L.filter fun r => decide (r = e)).length, List.mem_range.mpr (by omega), List.mem_map.mpr ⟨M, ?_, rfl⟩⟩
      have : L.length - (L.filter fun r => decide (r = e)).length = (L.filter fun r => !decide (r = e)).length := by omega
      rw [this]
      exact hM
    · rw [← re]
      exact (List.Perm.append_left _ pM).trans pf
theorem perm_lift {α β : Type} : ∀ {M L : List α}, M.Perm L → ∀ Z : List (α × β), Z.map (·.1) = M → ∃ Z' : List (α × β), Z'.Perm Z ∧ Z'.map (·.1) = L := by
  intro M L p
  induction p with
  | nil => intro Z h; exact ⟨Z, List.Perm.refl _, h⟩
  | cons x p ih =>
    intro Z h
    cases Z with
    | nil => simp at h
    | cons z Z =>
      rw [List.map_cons] at h
      injection h with h1 h2
      obtain ⟨Y, p1, p2⟩ := ih Z h2
      exact ⟨z :: Y, p1.cons z, by rw [List.map_cons, p2, h1]⟩
  | swap x y l =>
    intro Z h
    cases Z with
    | nil => simp at h
    | cons z Z =>
      cases Z with
      | nil => simp at h
      | cons w Z =>
        rw [List.map_cons, List.map_cons] at h
        injection h with h1 h2
        injection h2 with h2 h3
        exact ⟨w :: z :: Z, List.Perm.swap _ _ _, by rw [List.map_cons, List.map_cons, h1, h2, h3]⟩
  | trans p q ih1 ih2 =>
    intro Z h
    obtain ⟨Y, a, b⟩ := ih1 Z h
    obtain ⟨X, c, d⟩ := ih2 Y b
    exact ⟨X, c.trans a, d⟩
theorem zip_back {α β : Type} : ∀ Z : List (α × β), (Z.map (·.1)).zip (Z.map (·.2)) = Z
  | [] => rfl
  | z :: Z => by rw [List.map_cons, List.map_cons, List.zip_cons_cons, zip_back]
theorem zip_fst {α β : Type} : ∀ {xs : List α} {ys : List β}, ys.length = xs.length → (xs.zip ys).map (·.1) = xs ∧ (xs.zip ys).map (·.2) = ys
  | [], [], _ => ⟨rfl, rfl⟩
  | [], _ :: _, h => by simp at h
  | _ :: _, [], h => by simp at h
  | x :: xs, y :: ys, h => by
    obtain ⟨a, b⟩ := zip_fst (xs := xs) (ys := ys) (by simpa using h)
    rw [List.zip_cons_cons, List.map_cons, List.map_cons, a, b]
    exact ⟨rfl, rfl⟩
theorem mem_op_zip {d : Int} {r : Int × Int} : ∀ {L : Rd} {t : List Int}, t.length = L.length → (r ∈ op L t d ↔ ∃ e, (r, e) ∈ L.zip t ∧ e ≠ d)
  | [], [], _ => by
    rw [op_nil]
    exact ⟨fun h => absurd h List.not_mem_nil, fun ⟨_, h, _⟩ => absurd h List.not_mem_nil⟩
  | [], _ :: _, h => by simp at h
  | _ :: _, [], h => by simp at h
  | x :: L, y :: t, h => by
    have ih := mem_op_zip (d := d) (r := r) (L := L) (t := t) (by simpa using h)
    rw [op_cons, List.zip_cons_cons]
    by_cases c : y = d
    · rw [if_pos c, ih]
      constructor
      · rintro ⟨e, a, b⟩; exact ⟨e, List.mem_cons_of_mem _ a, b⟩
      · rintro ⟨e, a, b⟩
        rcases List.mem_cons.mp a with a | a
        · injection a with a1 a2; exact absurd (a2.trans c) b
        · exact ⟨e, a, b⟩
    · rw [if_neg c, List.mem_cons, ih]
      constructor
      · rintro (a | ⟨e, a, b⟩)
        · exact ⟨y, by rw [a]; exact List.mem_cons_self, c⟩
        · exact ⟨e, List.mem_cons_of_mem _ a, b⟩
      · rintro ⟨e, a, b⟩
        rcases List.mem_cons.mp a with a | a
        · injection a with a1 a2; exact Or.inl a1
        · exact Or.inr ⟨e, a, b⟩
theorem hold_perm {n : Int} {M L : Rd} {k : Int} {t : List Int} (p : M.Perm L) (h : hold n M k t = true) : ∃ u, hold n L k u = true := by
  obtain ⟨h1, h2, h3⟩ := hold_iff.mp h
  obtain ⟨z1, z2⟩ := zip_fst h1
  obtain ⟨Z, pz, e⟩ := perm_lift p (M.zip t) z1
  have lz : (Z.map (·.2)).length = L.length := by rw [← e, List.length_map, List.length_map]
  refine ⟨Z.map (·.2), hold_iff.mpr ⟨lz, fun x hx => ?_, fun d a b => ?_⟩⟩
  · have : x ∈ (M.zip t).map (·.2) := (pz.map _).mem_iff.mp hx
    rw [z2] at this
    exact h2 x this
  · refine tg_mono (fun r hr => ?_) (h3 d a b)
    obtain ⟨y, y1, y2⟩ := (mem_op_zip h1).mp hr
    refine (mem_op_zip lz).mpr ⟨y, ?_, y2⟩
    rw [← e, zip_back]
    exact pz.mem_iff.mpr y1
theorem btw_perm {M L : Rd} {s : List Int} (p : M.Perm L) : btw M s = btw L s := (p.filter _).length_eq
theorem pack {n : Int} {L : Rd} {k : Int} (hn : n ∈ [(1 : Int), 2, 3, 4]) (hk : k ∈ [(1 : Int), 2, 3]) (hL : InO n L) (l2 : L.length ≤ 6) : (∃ s ∈ evs n, rf n L k s = true) ∨ ∃ t, hold n L k t = true := by
  have n1 : 1 ≤ n ∧ n ≤ 4 := by simp only [List.mem_cons, List.not_mem_nil, or_false] at hn; omega
  have kk : 1 ≤ k ∧ k ≤ 3 := by simp only [List.mem_cons, List.not_mem_nil, or_false] at hk; omega
  obtain ⟨M, hM, p⟩ := mem_mst (es := prs n) (L := L) fun r hr => mem_prs.mpr (hL r hr)
  obtain ⟨w, hw⟩ := woks_mem (woks_all n hn k hk) M (List.mem_flatMap.mpr ⟨L.length, List.mem_range.mpr (by omega), hM⟩)
  unfold wok at hw
  split at hw
  · split at hw
    · rename_i s e
      have hs : s ∈ evs n := List.mem_iff_getElem?.mpr ⟨w, e⟩
      refine Or.inl ⟨s, hs, ?_⟩
      unfold rf
      rw [decide_eq_true hs, Bool.true_and]
      unfold rfq at hw
      rw [btw_perm p] at hw
      exact hw
    · cases hw
  · have hw := decide_eq_true_iff.mp hw
    have iM : InR n M := fun r hr => hL.r r (p.mem_iff.mp hr)
    rw [law_hold n1.1 (by omega) iM (by rw [p.length_eq]; omega) kk.1 kk.2] at hw
    exact Or.inr (hold_perm p (Option.some.inj hw))
/-! ### the roads that the law builds -/
theorem two_trees {n : Int} {s : Rd} (h1 : 1 ≤ n) (hl : (s.length : Int) = 2 * (n - 1)) (h : ∀ i : Nat, i < s.length → ∃ a, s[i]? = some (a, (i : Int) / 2 + 1) ∧ 0 ≤ a ∧ a ≤ (i : Int) / 2) : hold n s 2 ((List.range s.length).map fun i => ((i % 2 : Nat) : Int)) = true := by
  refine hold_iff.mpr ⟨by rw [List.length_map, List.length_range], fun x hx => ?_, fun d d0 d1 => ?_⟩
  · obtain ⟨i, _, rfl⟩ := List.mem_map.mp hx
    omega
  · refine tg_iff.mpr fun S h0 hS => ?_
    have key : ∀ m : Nat, (m : Int) < n → S (m : Int) = true := by
      intro m
      induction m using Nat.strongRecOn with
      | ind m ih =>
        intro hm
        cases m with
        | zero => exact h0
        | succ j =>
          obtain ⟨i, hi, hi2, hi3⟩ : ∃ i : Nat, i < s.length ∧ i / 2 = j ∧ ((i % 2 : Nat) : Int) ≠ d := by
            by_cases c : d = 0
            · exact ⟨2 * j + 1, by omega, by omega, by omega⟩
            · exact ⟨2 * j, by omega, by omega, by omega⟩
          obtain ⟨a, e, a0, a1⟩ := h i hi
          have hd : (i : Int) / 2 = (j : Int) := by omega
          rw [hd] at e a1
          have m : (a, (j : Int) + 1) ∈ op s ((List.range s.length).map fun i => ((i % 2 : Nat) : Int)) d := by
            refine mem_op.mpr ⟨i, e, ?_⟩
            rw [List.getElem?_map, List.getElem?_range hi]
            exact fun z => hi3 (Option.some.inj z)
          have q := hS _ m
          simp only at q
          obtain ⟨b, rfl⟩ := Int.eq_ofNat_of_zero_le a0
          have := ih b (by omega) (by omega)
          rw [Int.natCast_add]
          show S ((j : Int) + 1) = true
          rw [← q]
          exact this
    intro x x0 x1
    obtain ⟨m, rfl⟩ := Int.eq_ofNat_of_zero_le x0
    exact key m x1
theorem hold_more {n : Int} {s e : Rd} {k : Int} {t : List Int} (k1 : 1 ≤ k) (h : hold n s k t = true) : ∃ u, hold n (s ++ e) k u = true := by
  obtain ⟨h1, h2, h3⟩ := hold_iff.mp h
  refine ⟨t ++ List.replicate e.length 0, hold_iff.mpr ⟨by rw [List.length_append, List.length_append, List.length_replicate, h1], fun x hx => ?_, fun d a b => ?_⟩⟩
  · rcases List.mem_append.mp hx with hx | hx
    · exact h2 x hx
    · rw [(List.mem_replicate.mp hx).2]; omega
  · refine tg_mono (fun r hr => ?_) (h3 d a b)
    obtain ⟨j, j1, j2⟩ := mem_op.mp hr
    have lj := (List.getElem?_eq_some_iff.mp j1).1
    refine mem_op.mpr ⟨j, by rw [List.getElem?_append_left lj]; exact j1, ?_⟩
    rw [List.getElem?_append_left (by omega)]
    exact j2
theorem mod_ne {n a c : Int} (hn : n = 2 ∨ n = 3 ∨ n = 4) (a0 : 0 ≤ a) (a1 : a < n) (c0 : 1 ≤ c) (c1 : c < n) : (a + c) % n ≠ a ∧ 0 ≤ (a + c) % n ∧ (a + c) % n < n := by
  rcases hn with rfl | rfl | rfl <;> omega
theorem roads_ok {ds : List Int} {n tr : Int} (DR : Dr ds 18) (hn : n ∈ [(1 : Int), 2, 3, 4]) (htr : tr = 0 ∨ tr = 1 ∨ tr = 2) : ∃ L, m__law_roads ds n tr = some L ∧ (L.length ≤ 6 ∧ InO n L ∧ (tr = 2 → ∃ u, hold n L 2 u = true)) := by
  have n1 : n = 1 ∨ n = 2 ∨ n = 3 ∨ n = 4 := by simpa using hn
  have tb : 0 ≤ tr * (n - 1) ∧ tr * (n - 1) ≤ 6 := by rcases htr with rfl | rfl | rfl <;> omega
  have td : ∀ i : Int, 0 ≤ i → i < tr * (n - 1) → 0 < tr ∧ i / tr + 1 < n ∧ 0 ≤ i / tr := by
    intro i i0 i1
    rcases htr with rfl | rfl | rfl <;> omega
  unfold m__law_roads
  refine ex_bind rfl (ex_bind (mulO_eq (Or.inl (by omega))) (ex_bind (rngO_eq (by omega)) ?_))
  refine ex_fold_rngI (fun k s => s.length = k ∧ ∀ i : Nat, i < k → ∃ a, s[i]? = some (a, (i : Int) / tr + 1) ∧ 0 ≤ a ∧ a ≤ (i : Int) / tr) tb.1 ⟨rfl, fun i hi => absurd hi (by omega)⟩ ?_ ?_
  · rintro k s hk ⟨h1, h2⟩
    obtain ⟨t0, t1, t2⟩ := td k (by omega) hk
    obtain ⟨u, eu, u0, _⟩ := DR.at (i := (k : Int)) (by omega) (by omega)
    have m0 := Int.emod_nonneg u (b := (k : Int) / tr + 1) (by omega)
    have m1 := Int.emod_lt_of_pos u (b := (k : Int) / tr + 1) (by omega)
    refine ⟨s ++ [(u % ((k : Int) / tr + 1), (k : Int) / tr + 1)], bnd (show fdivO (k : Int) tr = some ((k : Int) / tr) by unfold fdivO; rw [if_pos (by omega)]) (bnd rfl (bnd eu (bnd (modO_eq (by omega)) (bnd (appO_eq (by omega)) rfl)))), by rw [List.length_append, h1]; rfl, fun i hi => ?_⟩
    by_cases c : i < k
    · obtain ⟨a, e, a0, a1⟩ := h2 i c
      exact ⟨a, by rw [List.getElem?_append_left (by omega)]; exact e, a0, a1⟩
    · have : i = k := by omega
      subst this
      refine ⟨u % ((i : Int) / tr + 1), ?_, m0, by omega⟩
      rw [List.getElem?_append_right (by omega), h1, Nat.sub_self]
      rfl
  rintro s ⟨h1, h2⟩
  have sl : (s.length : Int) = tr * (n - 1) := by omega
  have sO : InO n s := by
    intro r hr
    obtain ⟨i, hi⟩ := List.mem_iff_getElem?.mp hr
    have li := (List.getElem?_eq_some_iff.mp hi).1
    obtain ⟨a, e, a0, a1⟩ := h2 i (by omega)
    rw [hi] at e
    obtain ⟨t0, t1, t2⟩ := td i (by omega) (by omega)
    rw [Option.some.inj e]
    show 0 ≤ a ∧ a < (i : Int) / tr + 1 ∧ (i : Int) / tr + 1 < n
    omega
  have sH : tr = 2 → hold n s 2 ((List.range s.length).map fun i => ((i % 2 : Nat) : Int)) = true := by
    rintro rfl
    exact two_trees (by omega) sl fun i hi => h2 i (by omega)
  obtain ⟨w, ew, w0, w1⟩ := DR.at (i := 6) (by omega) (by omega)
  obtain ⟨t16, et, b0, b1, b2⟩ : ∃ t16, (if (decide ((1 : Int) < n)) = true then ((atI ds (6 : Int)).bind fun t14 => ((modO t14 ((7 : Int) - ((List.length s : Nat) : Int))).bind fun t15 => (some t15))) else (some (0 : Int))) = some t16 ∧ 0 ≤ t16 ∧ t16 + s.length ≤ 6 ∧ (0 < t16 → 1 < n) := by
    by_cases c : 1 < n
    · have m0 := Int.emod_nonneg w (b := 7 - (s.length : Int)) (by omega)
      have m1 := Int.emod_lt_of_pos w (b := 7 - (s.length : Int)) (by omega)
      exact ⟨_, (if_pos (decide_eq_true c)).trans (bnd ew (bnd (modO_eq (by omega)) rfl)), m0, by omega, fun _ => c⟩
    · exact ⟨0, if_neg (by rw [decide_eq_true_iff]; exact c), by omega, by omega, fun h => absurd h (by omega)⟩
  refine ex_bind et (ex_bind (rngO_eq (by omega)) ?_)
  refine ex_fold_rngI (fun k z => z.length = s.length + k ∧ InO n z ∧ ∃ e, z = s ++ e) b0 ⟨rfl, sO, [], (List.append_nil _).symm⟩ ?_ ?_
  · rintro k z hk ⟨z1, z2, e, z3⟩
    have nn := b2 (by omega)
    obtain ⟨u, eu, u0, _⟩ := DR.at (i := 7 + (k : Int)) (by omega) (by omega)
    have a0 := Int.emod_nonneg u (b := n) (by omega)
    have a1 := Int.emod_lt_of_pos u (b := n) (by omega)
    have c0 := Int.emod_nonneg (u / 4) (b := n - 1) (by omega)
    have c1 := Int.emod_lt_of_pos (u / 4) (b := n - 1) (by omega)
    obtain ⟨x1, x2, x3⟩ := mod_ne (n := n) (a := u % n) (c := 1 + u / 4 % (n - 1)) (by omega) a0 a1 (by omega) (by omega)
    rw [← Int.add_assoc] at x1 x2 x3
    refine ⟨_, bnd eu (bnd (modO_eq (by omega)) (bnd (modO_eq (by omega)) (bnd (modO_eq (by omega)) (bnd (appO_eq (by omega)) rfl)))), by rw [List.length_append, List.length_singleton]; omega, fun r hr => ?_, e ++ [_], by rw [z3, List.append_assoc]⟩
    rcases List.mem_append.mp hr with hr | hr
    · exact z2 r hr
    · rw [List.mem_singleton.mp hr]
      generalize (u % n + 1 + u / 4 % (n - 1)) % n = b at x1 x2 x3 ⊢
      show 0 ≤ min (u % n) b ∧ min (u % n) b < max (u % n) b ∧ max (u % n) b < n
      omega
  rintro z ⟨z1, z2, e, z3⟩
  obtain ⟨v, ev, v0, _⟩ := DR.at (i := 13) (by omega) (by omega)
  have m0 := Int.emod_nonneg v (b := (z.length : Int) + 1) (by omega)
  refine ex_bind ev (ex_bind (modO_eq (by omega)) ?_)
  have cl : (SM.cut z (some (v % ((z.length : Int) + 1))) none ++ SM.cut z none (some (v % ((z.length : Int) + 1)))).Perm z := by
    rw [cut_drop m0, cut_take m0]
    refine List.perm_append_comm.trans ?_
    rw [List.take_append_drop]
  have ll := cl.length_eq
  rw [List.length_append] at ll
  refine ex_bind (catO_eq (by omega)) ⟨_, rfl, by rw [List.length_append]; omega, fun r hr => z2 r (cl.mem_iff.mp hr), fun h => ?_⟩
  obtain ⟨u, hu⟩ := hold_more (e := e) (by omega) (sH h)
  rw [← z3] at hu
  exact hold_perm cl.symm hu
/-! ### the law -/
theorem find_none {n : Int} {L : Rd} {k : Int} (hn : n ∈ [(1 : Int), 2, 3, 4]) (hk : k ∈ [(1 : Int), 2, 3]) (hL : InO n L) (l2 : L.length ≤ 6) : (((lsx k L.length).find? (hold n L k)) = none ∧ ∃ s, (evs n).find? (rf n L k) = some s ∧ s ∈ evs n) ∨ ((evs n).find? (rf n L k) = none ∧ ∃ t, (lsx k L.length).find? (hold n L k) = some t ∧ hold n L k t = true) := by
  cases hD : (lsx k L.length).find? (hold n L k) with
  | some t =>
    have ht := List.find?_some hD
    exact Or.inr ⟨List.find?_eq_none.mpr fun s _ => by rw [hold_rf hn hk hL ht s]; exact Bool.false_ne_true, t, rfl, ht⟩
  | none =>
    left
    refine ⟨rfl, ?_⟩
    have no : ¬ ∃ t, hold n L k t = true := by
      rintro ⟨t, ht⟩
      obtain ⟨a, b, _⟩ := hold_iff.mp ht
      exact List.find?_eq_none.mp hD t (mem_lsx.mpr ⟨a, b⟩) ht
    obtain ⟨s, hs, hr⟩ := (pack hn hk hL l2).resolve_right no
    cases hf : (evs n).find? (rf n L k) with
    | some s => exact ⟨s, rfl, List.mem_of_find?_eq_some hf⟩
    | none => exact absurd hr (List.find?_eq_none.mp hf s hs)
theorem told_due {n : Int} {L : Rd} {k : Int} (hn : n ∈ [(1 : Int), 2, 3, 4]) (hk : k ∈ [(1 : Int), 2, 3]) (hL : InO n L) (l2 : L.length ≤ 6) : m_told_turns n L k = some ((lsx k L.length).find? (hold n L k)) := by
  have k1 : 1 ≤ k := by simp only [List.mem_cons, List.not_mem_nil, or_false] at hk; omega
  rw [told_turns_ok hn hk hL.r l2]
  rcases find_none hn hk hL l2 with ⟨a, s, b, _⟩ | ⟨a, t, b, c⟩
  · rw [a, b]; rfl
  · rw [a, dfs_due k1 (hold_tg k1 c)]; rfl
theorem far : ∀ n ∈ [(1 : Int), 2, 3, 4], ∃ s ∈ evs n, top s = n - 1 := by decide +kernel
theorem few {n : Int} {L : Rd} {k : Int} (hn : n ∈ [(1 : Int), 2, 3, 4]) (hk : k ∈ [(1 : Int), 2, 3]) (hL : InO n L) (l2 : L.length ≤ 6) (l3 : (L.length : Int) < n - 1) : m_told_turns n L k = some none ∧ ∃ s, m_told_rift n L k = some (some s) := by
  have kk : 1 ≤ k ∧ k ≤ 3 := by simp only [List.mem_cons, List.not_mem_nil, or_false] at hk; omega
  rw [told_due hn hk hL l2, told_rift_ok hn hL.r (by omega) kk.1 kk.2]
  rcases find_none hn hk hL l2 with ⟨a, s, b, _⟩ | ⟨a, t, b, c⟩
  · rw [a, b]; exact ⟨rfl, s, rfl⟩
  · obtain ⟨s, hs, ht⟩ := far n hn
    have := tg_btw hn hL (hold_tg kk.1 c) hs
    have : btw L s ≤ L.length := List.length_filter_le _ _
    omega
theorem law_true (script : List Int) (hlen : script.length ≤ 63) : m_law script = some true := by
  unfold m_law
  refine bnd (rngO_eq (by omega)) (foldR_bndE ?_ rfl)
  intro x hx
  obtain ⟨hx0, hx1⟩ := mem_rng.mp hx
  obtain ⟨c, hc⟩ := cell_ok script hx0
  obtain ⟨dr, hdr, DR⟩ := draws_dr c (n := 60) (by omega) (by omega)
  obtain ⟨d0, e0, a0, _⟩ := DR.at (i := 0) (by omega) (by omega)
  obtain ⟨d1, e1, a1, _⟩ := DR.at (i := 1) (by omega) (by omega)
  obtain ⟨n, en, hn⟩ : ∃ n, atI [((1 : Int) + (d0 % (4 : Int))), ((2 : Int) + (d0 % (3 : Int))), ((3 : Int) + (d0 % (2 : Int)))] x = some n ∧ n ∈ [(1 : Int), 2, 3, 4] := by
    obtain rfl | rfl | rfl : x = 0 ∨ x = 1 ∨ x = 2 := by omega
    · exact ⟨_, rfl, by simp only [List.mem_cons, List.not_mem_nil, or_false]; omega⟩
    · exact ⟨_, rfl, by simp only [List.mem_cons, List.not_mem_nil, or_false]; omega⟩
    · exact ⟨_, rfl, by simp only [List.mem_cons, List.not_mem_nil, or_false]; omega⟩
  obtain ⟨k, tr, ek, et, hk, htr, hkt⟩ : ∃ k tr, atI [(2 : Int), ((1 : Int) + (d1 % (3 : Int))), ((2 : Int) + (d1 % (2 : Int)))] x = some k ∧ atI [(2 : Int), (0 : Int), (1 : Int)] x = some tr ∧ k ∈ [(1 : Int), 2, 3] ∧ (tr = 0 ∨ tr = 1 ∨ tr = 2) ∧ (x = 0 → k = 2 ∧ tr = 2) := by
    obtain rfl | rfl | rfl : x = 0 ∨ x = 1 ∨ x = 2 := by omega
    · exact ⟨_, _, rfl, rfl, by simp, by omega, fun _ => ⟨rfl, rfl⟩⟩
    · exact ⟨_, _, rfl, rfl, by simp only [List.mem_cons, List.not_mem_nil, or_false]; omega, by omega, fun h => absurd h (by omega)⟩
    · exact ⟨_, _, rfl, rfl, by simp only [List.mem_cons, List.not_mem_nil, or_false]; omega, by omega, fun h => absurd h (by omega)⟩
  have nn : 1 ≤ n ∧ n ≤ 4 := by simp only [List.mem_cons, List.not_mem_nil, or_false] at hn; omega
  have kk : 1 ≤ k ∧ k ≤ 3 := by simp only [List.mem_cons, List.not_mem_nil, or_false] at hk; omega
  have D18 : Dr (SM.cut dr (some (2 : Int)) (some (20 : Int))) 18 := by
    have := DR.cut (i := 2) (j := 20) (by omega) (by omega) (by omega)
    exact this
  obtain ⟨L, hLe, l2, hL, hTwo⟩ := roads_ok D18 hn htr
  obtain ⟨_, ev2, ev3, ev4, ev5⟩ := evs_ok n hn
  refine bnd hc (bnd hdr (bnd e0 (bnd e0 (bnd e0 (bnd en (bnd e1 (bnd e1 (bnd ek (bnd et (bnd hLe (bnd ev2 ?_)))))))))))
  have hri : compM (fun (x22 : (List Int)) => ((m__law_rift (evs n) L k x22).bind fun t23 => (if t23 = true then (some x22).bind (fun y => some (some y)) else some none))) (evs n) = some ((evs n).filter (rf n L k)) := by
    rw [compM_ok (g := fun s => if rf n L k s = true then some s else none), filterMap_if]
    intro s _
    refine bnd (law_rift hn hL.r (by omega) kk.1 kk.2) ?_
    by_cases q : rf n L k s = true
    · rw [if_pos q, if_pos q]; rfl
    · rw [if_neg q, if_neg q]
  refine bnd hri (bnd (least_ok nn.1 (by omega) hL.r l2 hk) ?_)
  have hd : ((evs n).filter (rf n L k)).head? = (evs n).find? (rf n L k) := List.head?_filter
  have alt := find_none hn hk hL l2
  have tD := told_due hn hk hL l2
  have tR := told_rift_ok hn hL.r (by omega) kk.1 kk.2 (L := L) (k := k)
  have dl : ∀ t, (lsx k L.length).find? (hold n L k) = some t → t.length ≤ 6 := fun t h => by
    have := (mem_lsx.mp (List.mem_of_find?_eq_some h)).1; omega
  have d0x : x = 0 → (lsx k L.length).find? (hold n L k) ≠ none := by
    intro h z
    obtain ⟨k2, t2⟩ := hkt h
    obtain ⟨u, hu⟩ := hTwo t2
    rw [← k2] at hu
    obtain ⟨a, b, _⟩ := hold_iff.mp hu
    exact List.find?_eq_none.mp z u (mem_lsx.mpr ⟨a, b⟩) hu
  generalize (lsx k L.length).find? (hold n L k) = D at alt tD dl d0x ⊢
  generalize hfi : (evs n).find? (rf n L k) = R at alt tR hd
  have rl : decide ((0 : Int) < (((evs n).filter (rf n L k)).length : Int)) = R.isSome := by
    rw [← hd]
    cases (evs n).filter (rf n L k) with
    | nil => rfl
    | cons a as => rw [List.head?_cons]; exact decide_eq_true (by rw [List.length_cons]; omega)
  refine itf ?_ ?_
  · rw [rl]
    rcases alt with ⟨a, s, b, _⟩ | ⟨a, t, b, _⟩
    · have : decide (x = 0) = false := decide_eq_false fun h => d0x h a
      rw [a, b, this]; rfl
    · rw [a, b]
      cases decide (x = 0) <;> rfl
  refine bnd tD (bnd (x := true) (law_is_rfl (isEq_OT isEq_I) (okD_O fun y hy => okD_T (by have := dl y hy; omega) fun _ _ => okD_I)) (itf rfl ?_))
  refine bnd tR (bnd headO (bnd (x := true) ?_ (itf rfl ?_)))
  · rw [hd]
    refine law_is_rfl (isEq_OT isEq_I) (okD_O fun y hy => okD_T ?_ fun _ _ => okD_I)
    rw [hy] at hfi
    have := (ev3 y (List.mem_of_find?_eq_some hfi)).1
    omega
  refine bnd (x := false) ?_ (itf rfl ?_)
  · by_cases h1 : 1 < n
    · rw [decide_eq_true h1, andO_t, cut_take (by omega)]
      have hl : (L.take (n - 2).toNat).length ≤ (n - 2).toNat := List.length_take_le _ _
      obtain ⟨f1, s, f2⟩ := few (L := L.take (n - 2).toNat) hn hk (fun r hr => hL r (List.mem_of_mem_take hr)) (by omega) (by omega)
      rw [f1, f2]
      rfl
    · rw [decide_eq_false h1]; rfl
  refine bnd (rngO_eq (by omega)) (foldR_bndE ?_ rfl)
  intro y hy
  obtain ⟨hy0, hy1⟩ := mem_rng.mp hy
  obtain ⟨base, hb, bl⟩ : ∃ base, (if (!(isN ((eO (eT eI)) D))) = true then (D.bind fun t46 => (some t46)) else ((rngO 0 ((List.length L : Nat) : Int)).bind fun r41 => ((compM (fun (x42 : Int) => ((atI dr ((20 : Int) + x42)).bind fun t43 => ((modO t43 k).bind fun t44 => (some (some t44))))) r41).bind fun l45 => (some l45)))) = some base ∧ base.length ≤ 6 := by
    cases hD : D with
    | some t => exact ⟨t, rfl, dl t hD⟩
    | none =>
      obtain ⟨ys, y1, y2, _⟩ := compM_ex (f := fun (x42 : Int) => ((atI dr ((20 : Int) + x42)).bind fun t43 => ((modO t43 k).bind fun t44 => (some (some t44))))) (Q := fun _ => True) (xs := rng 0 (L.length : Int)) fun z hz => by
        have := mem_rng.mp hz
        obtain ⟨w, ew, _⟩ := DR.at (i := 20 + z) (by omega) (by omega)
        exact ⟨_, bnd ew (bnd (modO_eq (by omega)) rfl), trivial⟩
      refine ⟨ys, ?_, by rw [y2, rng_len]; omega⟩
      show Option.bind _ _ = _
      exact bnd (rngO_eq (by omega)) (bnd y1 rfl)
  obtain ⟨asked, ha⟩ : ∃ asked, (if (decide (y = (0 : Int))) = true then (some base) else ((m__law_bent base (SM.cut dr (some ((26 : Int) + ((3 : Int) * y))) (some ((29 : Int) + ((3 : Int) * y)))) k).bind fun t49 => (some t49))) = some asked := by
    by_cases h : y = 0
    · exact ⟨base, if_pos (decide_eq_true h)⟩
    · obtain ⟨z, hz, _⟩ := bent_ok (row := base) (most := k) (by omega) (DR.cut (i := 26 + 3 * y) (j := 29 + 3 * y) (by omega) (by omega) (by omega)) (by omega) (by omega)
      exact ⟨z, (if_neg (by rw [decide_eq_true_iff]; exact h)).trans (bnd hz rfl)⟩
  have hj : ∀ b : Bool, m__law_is (eB b) (eB b) = some true := fun b => by rw [is_eB]; simp
  refine bnd hb (bnd ha (bnd (own_hold nn.1 (by omega) hL.r kk.1 kk.2) (bnd (law_hold nn.1 (by omega) hL.r (by omega) kk.1 kk.2) (bnd (hj _) (itf rfl ?_)))))
  obtain ⟨v, ev, v0, _⟩ := DR.at (i := 44 + y) (by omega) (by omega)
  have m0 := Int.emod_nonneg v (b := ((evs n).length : Int)) (by omega)
  have m1 := Int.emod_lt_of_pos v (b := ((evs n).length : Int)) (by omega)
  obtain ⟨one, eo, om, _⟩ := atI_lt (xs := evs n) m0 m1
  obtain ⟨two, hw⟩ : ∃ two, (if (decide (y < (3 : Int))) = true then (some one) else ((m__law_bent one (SM.cut dr (some ((48 : Int) + y)) (some ((51 : Int) + y))) n).bind fun t59 => (some t59))) = some two := by
    by_cases h : y < 3
    · exact ⟨one, if_pos (decide_eq_true h)⟩
    · obtain ⟨z, hz, _⟩ := bent_ok (row := one) (most := n) (by have := (ev3 one om).1; omega) (DR.cut (i := 48 + y) (j := 51 + y) (by omega) (by omega) (by omega)) (by omega) (by omega)
      exact ⟨z, (if_neg (by rw [decide_eq_true_iff]; exact h)).trans (bnd hz rfl)⟩
  exact bnd ev (bnd (modO_eq (by omega)) (bnd eo (bnd hw (bnd (own_rift hn hL.r (by omega) kk.1 kk.2) (bnd (law_rift hn hL.r (by omega) kk.1 kk.2) (bnd (hj _) (itf rfl rfl)))))))
end K74

set_option autoImplicit false
set_option Elab.async false
set_option linter.all false
set_option maxRecDepth 100000
set_option maxHeartbeats 4000000
namespace K74
open PySem PySem.Spec PyProof.Rows L2 SM
def topS (i : Nat) : Stmt := PySem.Challenge.pw_slopeward_k74_whole_roads_shut_in_turns.main.body.getD i (.Pass ⟨0, 0, 0, 0⟩)
abbrev s_do_hold_together : Stmt := topS 1
theorem sc_do_hold_together : FnScope ["n", "roads", "come", "_", "a", "b"] ["n", "roads"] (defScope s_do_hold_together) := ⟨rfl, rfl, rfl, by decide +kernel, rfl, by decide +kernel, by decide +kernel⟩
theorem nd_do_hold_together : (["n", "roads", "come", "_", "a", "b"] : List Str).Nodup := by decide +kernel
abbrev s_does_day_hold : Stmt := topS 2
theorem sc_does_day_hold : FnScope ["n", "roads", "turns", "day", "shut", "at", "turn", "road"] ["n", "roads", "turns", "day"] (defScope s_does_day_hold) := ⟨rfl, rfl, rfl, by decide +kernel, rfl, by decide +kernel, by decide +kernel⟩
theorem nd_does_day_hold : (["n", "roads", "turns", "day", "shut", "at", "turn", "road"] : List Str).Nodup := by decide +kernel
abbrev s_do_turns_hold : Stmt := topS 3
theorem sc_do_turns_hold : FnScope ["n", "roads", "k", "turns", "day"] ["n", "roads", "k", "turns"] (defScope s_do_turns_hold) := ⟨rfl, rfl, rfl, by decide +kernel, rfl, by decide +kernel, by decide +kernel⟩
theorem nd_do_turns_hold : (["n", "roads", "k", "turns", "day"] : List Str).Nodup := by decide +kernel
abbrev s_is_splitting : Stmt := topS 4
theorem sc_is_splitting : FnScope ["n", "splitting", "at", "part"] ["n", "splitting"] (defScope s_is_splitting) := ⟨rfl, rfl, rfl, by decide +kernel, rfl, by decide +kernel, by decide +kernel⟩
theorem nd_is_splitting : (["n", "splitting", "at", "part"] : List Str).Nodup := by decide +kernel
abbrev s_is_rift : Stmt := topS 5
theorem sc_is_rift : FnScope ["n", "roads", "k", "splitting", "between", "a", "b"] ["n", "roads", "k", "splitting"] (defScope s_is_rift) := ⟨rfl, rfl, rfl, by decide +kernel, rfl, by decide +kernel, by decide +kernel⟩
theorem nd_is_rift : (["n", "roads", "k", "splitting", "between", "a", "b"] : List Str).Nodup := by decide +kernel
abbrev s_all_splittings : Stmt := topS 6
theorem sc_all_splittings : FnScope ["n", "found", "_", "one", "part"] ["n"] (defScope s_all_splittings) := ⟨rfl, rfl, rfl, by decide +kernel, rfl, by decide +kernel, by decide +kernel⟩
theorem nd_all_splittings : (["n", "found", "_", "one", "part"] : List Str).Nodup := by decide +kernel
abbrev s_told_rift : Stmt := topS 7
theorem sc_told_rift : FnScope ["n", "roads", "k", "splitting"] ["n", "roads", "k"] (defScope s_told_rift) := ⟨rfl, rfl, rfl, by decide +kernel, rfl, by decide +kernel, by decide +kernel⟩
theorem nd_told_rift : (["n", "roads", "k", "splitting"] : List Str).Nodup := by decide +kernel
abbrev s_told_turns : Stmt := topS 8
theorem sc_told_turns : FnScope ["n", "roads", "k", "waiting", "turns", "day"] ["n", "roads", "k"] (defScope s_told_turns) := ⟨rfl, rfl, rfl, by decide +kernel, rfl, by decide +kernel, by decide +kernel⟩
theorem nd_told_turns : (["n", "roads", "k", "waiting", "turns", "day"] : List Str).Nodup := by decide +kernel
abbrev s__law_cell : Stmt := topS 10
theorem sc__law_cell : FnScope ["script", "k"] ["script", "k"] (defScope s__law_cell) := ⟨rfl, rfl, rfl, by decide +kernel, rfl, by decide +kernel, by decide +kernel⟩
theorem nd__law_cell : (["script", "k"] : List Str).Nodup := by decide +kernel
abbrev s__law_draws : Stmt := topS 11
theorem sc__law_draws : FnScope ["cell", "count", "rest", "digits", "seed", "draws", "k", "mixed"] ["cell", "count"] (defScope s__law_draws) := ⟨rfl, rfl, rfl, by decide +kernel, rfl, by decide +kernel, by decide +kernel⟩
theorem nd__law_draws : (["cell", "count", "rest", "digits", "seed", "draws", "k", "mixed"] : List Str).Nodup := by decide +kernel
abbrev s__law_is_integer : Stmt := topS 12
theorem sc__law_is_integer : FnScope ["value"] ["value"] (defScope s__law_is_integer) := ⟨rfl, rfl, rfl, by decide +kernel, rfl, by decide +kernel, by decide +kernel⟩
theorem nd__law_is_integer : (["value"] : List Str).Nodup := by decide +kernel
abbrev s__law_is : Stmt := topS 13
theorem sc__law_is : FnScope ["value", "due", "at"] ["value", "due"] (defScope s__law_is) := ⟨rfl, rfl, rfl, by decide +kernel, rfl, by decide +kernel, by decide +kernel⟩
theorem nd__law_is : (["value", "due", "at"] : List Str).Nodup := by decide +kernel
abbrev s__law_bent : Stmt := topS 14
theorem sc__law_bent : FnScope ["row", "draws", "most", "way", "at", "odd"] ["row", "draws", "most"] (defScope s__law_bent) := ⟨rfl, rfl, rfl, by decide +kernel, rfl, by decide +kernel, by decide +kernel⟩
theorem nd__law_bent : (["row", "draws", "most", "way", "at", "odd"] : List Str).Nodup := by decide +kernel
abbrev s__law_together : Stmt := topS 15
theorem sc__law_together : FnScope ["n", "roads", "marks", "a", "b", "low", "high", "at", "mark"] ["n", "roads"] (defScope s__law_together) := ⟨rfl, rfl, rfl, by decide +kernel, rfl, by decide +kernel, by decide +kernel⟩
theorem nd__law_together : (["n", "roads", "marks", "a", "b", "low", "high", "at", "mark"] : List Str).Nodup := by decide +kernel
abbrev s__law_hold : Stmt := topS 16
theorem sc__law_hold : FnScope ["n", "roads", "k", "turns", "day", "at"] ["n", "roads", "k", "turns"] (defScope s__law_hold) := ⟨rfl, rfl, rfl, by decide +kernel, rfl, by decide +kernel, by decide +kernel⟩
theorem nd__law_hold : (["n", "roads", "k", "turns", "day", "at"] : List Str).Nodup := by decide +kernel
abbrev s__law_least_turns : Stmt := topS 17
theorem sc__law_least_turns : FnScope ["n", "roads", "k", "turns", "number", "rest", "at"] ["n", "roads", "k"] (defScope s__law_least_turns) := ⟨rfl, rfl, rfl, by decide +kernel, rfl, by decide +kernel, by decide +kernel⟩
theorem nd__law_least_turns : (["n", "roads", "k", "turns", "number", "rest", "at"] : List Str).Nodup := by decide +kernel
abbrev s__law_splittings : Stmt := topS 18
theorem sc__law_splittings : FnScope ["n", "every", "at", "longer", "one", "most", "part"] ["n"] (defScope s__law_splittings) := ⟨rfl, rfl, rfl, by decide +kernel, rfl, by decide +kernel, by decide +kernel⟩
theorem nd__law_splittings : (["n", "every", "at", "longer", "one", "most", "part"] : List Str).Nodup := by decide +kernel
abbrev s__law_rift : Stmt := topS 19
theorem sc__law_rift : FnScope ["every", "roads", "k", "splitting", "between", "road"] ["every", "roads", "k", "splitting"] (defScope s__law_rift) := ⟨rfl, rfl, rfl, by decide +kernel, rfl, by decide +kernel, by decide +kernel⟩
theorem nd__law_rift : (["every", "roads", "k", "splitting", "between", "road"] : List Str).Nodup := by decide +kernel
abbrev s__law_roads : Stmt := topS 20
theorem sc__law_roads : FnScope ["draws", "n", "trees", "roads", "at", "moved", "b", "one", "a"] ["draws", "n", "trees"] (defScope s__law_roads) := ⟨rfl, rfl, rfl, by decide +kernel, rfl, by decide +kernel, by decide +kernel⟩
theorem nd__law_roads : (["draws", "n", "trees", "roads", "at", "moved", "b", "one", "a"] : List Str).Nodup := by decide +kernel
abbrev s_law : Stmt := topS 21
theorem sc_law : FnScope ["script", "turn", "draws", "n", "k", "roads", "every", "rifts", "due", "at", "base", "asked", "one", "place"] ["script"] (defScope s_law) := ⟨rfl, rfl, rfl, by decide +kernel, rfl, by decide +kernel, by decide +kernel⟩
theorem nd_law : (["script", "turn", "draws", "n", "k", "roads", "every", "rifts", "due", "at", "base", "asked", "one", "place"] : List Str).Nodup := by decide +kernel
structure Gl (K : PySem.W.Frag) (mg : Str → Option Value) (base : Heap) (tabs : Tbs) : Prop where
  b_abs : mg "abs" = none
  b_all : mg "all" = none
  b_bool : mg "bool" = none
  b_enumerate : mg "enumerate" = none
  b_int : mg "int" = none
  b_isinstance : mg "isinstance" = none
  b_len : mg "len" = none
  b_max : mg "max" = none
  b_min : mg "min" = none
  b_range : mg "range" = none
  b_str : mg "str" = none
  b_tuple : mg "tuple" = none
  d_do_hold_together : GDef K mg "do_hold_together" s_do_hold_together ["n", "roads"]
  d_does_day_hold : GDef K mg "does_day_hold" s_does_day_hold ["n", "roads", "turns", "day"]
  d_do_turns_hold : GDefT K mg base tabs "do_turns_hold" s_do_turns_hold ["n", "roads", "k", "turns"]
  d_is_splitting : GDefT K mg base tabs "is_splitting" s_is_splitting ["n", "splitting"]
  d_is_rift : GDef K mg "is_rift" s_is_rift ["n", "roads", "k", "splitting"]
  d_all_splittings : GDef K mg "all_splittings" s_all_splittings ["n"]
  d_told_rift : GDef K mg "told_rift" s_told_rift ["n", "roads", "k"]
  d_told_turns : GDef K mg "told_turns" s_told_turns ["n", "roads", "k"]
  d__law_cell : GDef K mg "_law_cell" s__law_cell ["script", "k"]
  d__law_draws : GDef K mg "_law_draws" s__law_draws ["cell", "count"]
  d__law_is_integer : GDef K mg "_law_is_integer" s__law_is_integer ["value"]
  d__law_is : GDef K mg "_law_is" s__law_is ["value", "due"]
  d__law_bent : GDef K mg "_law_bent" s__law_bent ["row", "draws", "most"]
  d__law_together : GDef K mg "_law_together" s__law_together ["n", "roads"]
  d__law_hold : GDef K mg "_law_hold" s__law_hold ["n", "roads", "k", "turns"]
  d__law_least_turns : GDef K mg "_law_least_turns" s__law_least_turns ["n", "roads", "k"]
  d__law_splittings : GDef K mg "_law_splittings" s__law_splittings ["n"]
  d__law_rift : GDef K mg "_law_rift" s__law_rift ["every", "roads", "k", "splitting"]
  d__law_roads : GDef K mg "_law_roads" s__law_roads ["draws", "n", "trees"]
  d_law : GDef K mg "law" s_law ["script"]
section
variable {P : Program} {w : World} {K : PySem.W.Frag} {mg : Str → Option Value} {base : Heap} {tabs : Tbs}
def R_do_hold_together (ds : List PyData) (r : PyData) : Prop := ∃ (n1 : Int), ∃ (roads2 : (List (Int × Int))), ∃ y, ds = [eI n1, (eL (eP2 eI eI)) roads2] ∧ m_do_hold_together n1 roads2 = some y ∧ r = eB y
theorem j_do_hold_together (C : Gl K mg base tabs) (cdv : Value) (B F0 : Hp) (n1 : Int) (roads2 : (List (Int × Int))) : J (Stat.of P w K mg base ["n", "roads", "come", "_", "a", "b"] (defScope s_do_hold_together) 0 tabs cdv B F0 "do_hold_together") [.sh (eI n1), .sh ((eL (eP2 eI eI)) roads2), .un, .un, .un, .un] (defBody s_do_hold_together) (pT eB) (m_do_hold_together n1 roads2) := by
  unfold m_do_hold_together
  refine j_bind fun come3 hcome3 => ?_
  refine j_setFD (i := 2) ⟨nd_do_hold_together, rfl, .inl rfl, .inr rfl⟩ (FD.of (f_dict1 (enc := eB) (k := (0 : Int)) (x := true) e_int e_bl) (Option.some.inj hcome3)) (fun _ _ => rfl) ?_
  refine j_bind fun r4 hr4 => ?_
  refine j_to (γ2 := [.sh (eI n1), .sh ((eL (eP2 eI eI)) roads2), .ow (.dict (kvD eB come3)), .un, .un, .un]) rfl ?_
  refine j_for (enc := eI) (xs := r4) (γ0 := fun (s5 : ((List (Int × Bool)))) => [.sh (eI n1), .sh ((eL (eP2 eI eI)) roads2), .ow (.dict (kvD eB s5)), .un, .un, .un]) (t0 := (come3)) (i_range1O rfl C.b_range (e_var (i := 0) rfl (.inl rfl) rfl) (fun _ _ => rfl) hr4) (⟨rfl, ⟨rfl, ⟨rfl, trivial⟩⟩⟩) (fun s5 x6 hx6 => ⟨_, _, (g_name (i := 3) ⟨nd_do_hold_together, rfl, .inl rfl, .inr rfl⟩), ?_⟩) (fun s5 => ?_) (fun _ _ => rfl)
  · refine j_to (γ2 := [.sh (eI n1), .sh ((eL (eP2 eI eI)) roads2), .ow (.dict (kvD eB s5)), .sh (eI x6), .un, .un]) rfl ?_
    refine j_for (enc := (eP2 eI eI)) (xs := roads2) (γ0 := fun (s7 : ((List (Int × Bool)))) => [.sh (eI n1), .sh ((eL (eP2 eI eI)) roads2), .ow (.dict (kvD eB s7)), .un, .un, .un]) (t0 := (s5)) (i_list (e_var (i := 1) rfl (.inl rfl) rfl)) (⟨rfl, ⟨rfl, ⟨rfl, trivial⟩⟩⟩) (fun s7 x8 hx8 => ⟨_, _, (g_tup (gs_cons (g_name (i := 4) ⟨nd_do_hold_together, rfl, .inl rfl, .inr rfl⟩) (gs_cons (g_name (i := 5) ⟨nd_do_hold_together, rfl, .inl rfl, .inr rfl⟩) gs_nil (fun _ _ => rfl)) (fun _ _ => rfl)) (fun _ => rfl) (fun _ => rfl)), ?_⟩) (fun s7 => ?_) (fun _ _ => rfl)
    · refine j_ifJ (γj := fun (j11 : ((List (Int × Bool)))) => [.sh (eI n1), .sh ((eL (eP2 eI eI)) roads2), .ow (.dict (kvD eB j11)), .un, .un, .un]) (t_w (w_or (t_cmp (c_din (enc := eB) (m := s7) (e_var (i := 4) rfl (.inl rfl) rfl) (d_own (i := 2) (enc := eB) (m := s7) rfl (.inl rfl) rfl)) rfl) fun _ => (w_or1 (t_cmp (c_din (enc := eB) (m := s7) (e_var (i := 5) rfl (.inl rfl) rfl) (d_own (i := 2) (enc := eB) (m := s7) rfl (.inl rfl) rfl)) rfl)))) (fun hc => ?_) (fun hc => ?_) (fun j11 => ?_)
      · refine j_bind fun come12 hcome12 => ?_
        refine j_dput (j := 2) (enc := eB) (m := s7) (m2 := come12) (v := true) rfl (.inl rfl) rfl e_bl (e_var (i := 4) rfl (.inl rfl) rfl) hcome12 (by decide) (by decide) (fun _ => rfl) ?_
        refine j_bind fun come13 hcome13 => ?_
        refine j_dput (j := 2) (enc := eB) (m := come12) (m2 := come13) (v := true) rfl (.inl rfl) rfl e_bl (e_var (i := 5) rfl (.inl rfl) rfl) hcome13 (by decide) (by decide) (fun _ => rfl) ?_
        refine j_to (γ2 := [.sh (eI n1), .sh ((eL (eP2 eI eI)) roads2), .ow (.dict (kvD eB come13)), .un, .sh (eI x8.1), .sh (eI x8.2)]) rfl ?_
        exact j_nil (⟨rfl, ⟨rfl, ⟨rfl, trivial⟩⟩⟩)
      · refine j_to (γ2 := [.sh (eI n1), .sh ((eL (eP2 eI eI)) roads2), .ow (.dict (kvD eB s7)), .un, .sh (eI x8.1), .sh (eI x8.2)]) rfl ?_
        exact j_nil (⟨rfl, ⟨rfl, ⟨rfl, trivial⟩⟩⟩)
      · refine j_to (γ2 := [.sh (eI n1), .sh ((eL (eP2 eI eI)) roads2), .ow (.dict (kvD eB j11)), .un, .un, .un]) rfl ?_
        exact j_nil (⟨rfl, ⟨rfl, ⟨rfl, trivial⟩⟩⟩)
    · refine j_to (γ2 := [.sh (eI n1), .sh ((eL (eP2 eI eI)) roads2), .ow (.dict (kvD eB s7)), .un, .un, .un]) rfl ?_
      exact j_nil (⟨rfl, ⟨rfl, ⟨rfl, trivial⟩⟩⟩)
  · exact j_ret (e_cmp (c_eqI (e_lenD (enc := eB) (m := s5) rfl C.b_len (d_own (i := 2) (enc := eB) (m := s5) rfl (.inl rfl) rfl) (fun _ _ => rfl)) (e_var (i := 0) rfl (.inl rfl) rfl)) (nomark _)) rfl
theorem ok_do_hold_together (C : Gl K mg base tabs) : Known P w K mg base tabs 1 "do_hold_together" 2 R_do_hold_together := known_of (k := 0) C.d_do_hold_together sc_do_hold_together fun cdv B F0 ds r _ hr => by
  obtain ⟨n1, roads2, y, rfl, hy, rfl⟩ := hr
  exact (j_do_hold_together C cdv B F0 n1 roads2).body hy
def R_does_day_hold (ds : List PyData) (r : PyData) : Prop := ∃ (n1 : Int), ∃ (roads2 : (List (Int × Int))), ∃ (turns3 : (List Int)), ∃ (day4 : Int), ∃ y, ds = [eI n1, (eT (eP2 eI eI)) roads2, (eT eI) turns3, eI day4] ∧ m_does_day_hold n1 roads2 turns3 day4 = some y ∧ r = eB y
theorem j_does_day_hold (C : Gl K mg base tabs) (cdv : Value) (B F0 : Hp) (n1 : Int) (roads2 : (List (Int × Int))) (turns3 : (List Int)) (day4 : Int) : J (Stat.of P w K mg base ["n", "roads", "turns", "day", "shut", "at", "turn", "road"] (defScope s_does_day_hold) 1 tabs cdv B F0 "does_day_hold") [.sh (eI n1), .sh ((eT (eP2 eI eI)) roads2), .sh ((eT eI) turns3), .sh (eI day4), .un, .un, .un, .un] (defBody s_does_day_hold) (pT eB) (m_does_day_hold n1 roads2 turns3 day4) := by
  unfold m_does_day_hold
  refine j_bind fun shut6 hshut6 => ?_
  refine j_set (i := 4) ⟨nd_does_day_hold, rfl, .inr rfl, .inl rfl⟩ (EJ.of (FJ.ej (f_lc (own := [("at", 5), ("turn", 6)]) (enc := (eP2 eI eI)) (encB := eI) (xs := (enumI turns3)) (f := (fun (x5 : (Int × Int)) => some (if (decide (x5.2 = day4)) = true then some x5.1 else none))) (IW.x (IW.of (i_enumT rfl C.b_enumerate (e_var (i := 2) rfl (.inl rfl) rfl) (fun _ _ => rfl)) enumD_map)) (fun x5 _ => cb1T (k := (decide (x5.2 = day4))) (y := x5.1) (g_tup (gs_cons (g_name (i := 5) ⟨nd_does_day_hold, rfl, .inl rfl, .inr rfl⟩) (gs_cons (g_name (i := 6) ⟨nd_does_day_hold, rfl, .inl rfl, .inr rfl⟩) gs_nil (fun _ _ => rfl)) (fun _ _ => rfl)) (fun _ => rfl) (fun _ => rfl)) (by decide) (t_cmp (c_eqI (e_var (i := 6) rfl (.inl rfl) rfl) (e_var (i := 3) rfl (.inr (.inl rfl)) rfl)) (nomark _)) (fun _ => (e_var (i := 5) rfl (.inl rfl) rfl))) (compM_tot _) nd_does_day_hold rfl (by decide) (fun _ _ => rfl))) (congrArg (eL eI) (Option.some.inj hshut6))) (fun _ hX => sw_no hX (ne_cell rfl)) ?_
  refine j_bind fun t8 ht8 => ?_
  exact j_ret (EJ.of (d' := eB t8) (e_callK (ok_do_hold_together C) (Nat.le_of_ble_eq_true rfl) rfl (a_cons (e_var (i := 0) rfl (.inl rfl) rfl) (a_cons (FJ.ej (f_lc (own := [("at", 5), ("road", 7)]) (enc := (eP2 eI (eP2 eI eI))) (encB := (eP2 eI eI)) (xs := (enumI roads2)) (f := (fun (x7 : (Int × (Int × Int))) => some (if (!(decide (x7.1 ∈ shut6))) = true then some x7.2 else none))) (IW.x (IW.of (i_enumT rfl C.b_enumerate (e_var (i := 1) rfl (.inl rfl) rfl) (fun _ _ => rfl)) enumD_map)) (fun x7 _ => cb1T (k := (!(decide (x7.1 ∈ shut6)))) (y := x7.2) (g_tup (gs_cons (g_name (i := 5) ⟨nd_does_day_hold, rfl, .inl rfl, .inr rfl⟩) (gs_cons (g_name (i := 7) ⟨nd_does_day_hold, rfl, .inl rfl, .inr rfl⟩) gs_nil (fun _ _ => rfl)) (fun _ _ => rfl)) (fun _ => rfl) (fun _ => rfl)) (by decide) (t_cmp (c_notInI (e_var (i := 5) rfl (.inl rfl) rfl) (EJ.ql (e_var (i := 4) rfl (.inr (.inl rfl)) rfl))) rfl) (fun _ => (e_var (i := 7) rfl (.inl rfl) rfl))) (compM_tot _) nd_does_day_hold rfl (by decide) (fun _ _ => rfl))) a_nil (fun _ _ => rfl)) (fun _ _ => rfl)) ⟨n1, (List.map (fun (x7 : (Int × (Int × Int))) => x7.2) (List.filter (fun (x7 : (Int × (Int × Int))) => (!(decide (x7.1 ∈ shut6)))) (enumI roads2))), t8, rfl, ht8, rfl⟩ rfl (fun _ _ => rfl) (fun _ => rfl) (by decide)) rfl) rfl
theorem ok_does_day_hold (C : Gl K mg base tabs) : Known P w K mg base tabs 2 "does_day_hold" 4 R_does_day_hold := known_of (k := 1) C.d_does_day_hold sc_does_day_hold fun cdv B F0 ds r _ hr => by
  obtain ⟨n1, roads2, turns3, day4, y, rfl, hy, rfl⟩ := hr
  exact (j_does_day_hold C cdv B F0 n1 roads2 turns3 day4).body hy
def R_do_turns_hold (ds : List PyData) (r : PyData) : Prop := ∃ (n1 : Int), ∃ (roads2 : (List (Int × Int))), ∃ (k3 : Int), ∃ (turns4 : (List Int)), ∃ y, ds = [eI n1, (eT (eP2 eI eI)) roads2, eI k3, (eT eI) turns4] ∧ m_do_turns_hold n1 roads2 k3 turns4 = some y ∧ r = eB y
theorem j_do_turns_hold (C : Gl K mg base tabs) (c T : Addr) (hT : T ∈ tabs.G) (TB : GxR.TabB base mg c T) (B F0 : Hp) (n1 : Int) (roads2 : (List (Int × Int))) (k3 : Int) (turns4 : (List Int)) : J (Stat.of P w K mg base ["n", "roads", "k", "turns", "day"] (defScope s_do_turns_hold) 5 tabs (.ref c) B F0 "do_turns_hold") [.sh (eI n1), .sh ((eT (eP2 eI eI)) roads2), .sh (eI k3), .sh ((eT eI) turns4), .un] (defBody s_do_turns_hold) (pT eB) (m_do_turns_hold n1 roads2 k3 turns4) := by
  unfold m_do_turns_hold
  refine j_bind fun t7 ht7 => ?_
  refine j_ifR (TOp.elim (to_w (wo_or (to_some (t_cmp (c_neI (e_lenT (enc := eI) (xs := turns4) rfl C.b_len (EJ.qt (e_var (i := 3) rfl (.inr (.inl rfl)) rfl)) (fun _ _ => rfl)) (e_lenT (enc := (eP2 eI eI)) (xs := roads2) rfl C.b_len (EJ.qt (e_var (i := 1) rfl (.inr (.inl rfl)) rfl)) (fun _ _ => rfl))) (nomark _))) fun _ => (wo_or1 (to_bind fun t6 ht6 => (to_some (t_not (t_val (e_gxAll (own := [("day", 4)]) (encA := eI) (xs := turns4) (f := (fun (x5 : Int) => (some (some ((decide ((0 : Int) ≤ x5)) && (decide (x5 < k3))))))) (Nat.le_of_ble_eq_true rfl) rfl hT TB rfl C.b_all (IW.x (i_tup (e_var (i := 3) rfl (.inr (.inl rfl)) rfl))) (fun _ x5 _ => (cb0T (y := ((decide ((0 : Int) ≤ x5)) && (decide (x5 < k3)))) (g_name (i := 4) ⟨nd_do_turns_hold, rfl, .inl rfl, .inr rfl⟩) (by decide) (e_chain (g := fun i j => decide (i ≤ j)) (g' := fun i j => decide (i < j)) (fun _ => op_le) (fun _ => op_lt) e_int (e_var (i := 4) rfl (.inl rfl) rfl) (fun _ => (e_var (i := 2) rfl (.inr (.inr rfl)) rfl)) rfl))) ht6 nd_do_turns_hold rfl (by decide) (fun _ _ => rfl) (fun _ => rfl)) (fun _ _ => rfl)))))))) ht7) (fun hc => ?_) (fun hc => ?_)
  · exact j_ret e_bl rfl
  · refine j_bind fun r8 hr8 => ?_
    refine j_bind fun t11 ht11 => ?_
    exact j_ret (e_gxAll (own := [("day", 4)]) (encA := eI) (xs := r8) (f := (fun (x9 : Int) => ((m_does_day_hold n1 roads2 turns4 x9).bind fun t10 => (some (some t10))))) (Nat.le_of_ble_eq_true rfl) rfl hT TB rfl C.b_all (IW.x (i_range1O rfl C.b_range (e_var (i := 2) rfl (.inr (.inl rfl)) rfl) (fun _ _ => rfl) hr8)) (fun _ x9 _ => (cb_bind fun t10 ht10 => (cb0T (y := t10) (g_name (i := 4) ⟨nd_do_turns_hold, rfl, .inl rfl, .inr rfl⟩) (by decide) (EJ.of (d' := eB t10) (e_callK (ok_does_day_hold C) (Nat.le_of_ble_eq_true rfl) rfl (a_cons (e_var (i := 0) rfl (.inr (.inr rfl)) rfl) (a_cons (e_var (i := 1) rfl (.inr (.inr rfl)) rfl) (a_cons (e_var (i := 3) rfl (.inr (.inr rfl)) rfl) (a_cons (e_var (i := 4) rfl (.inl rfl) rfl) a_nil (fun _ _ => rfl)) (fun _ _ => rfl)) (fun _ _ => rfl)) (fun _ _ => rfl)) ⟨n1, roads2, turns4, x9, t10, rfl, ht10, rfl⟩ rfl (fun _ _ => rfl) (fun _ => rfl) (by decide)) rfl)))) ht11 nd_do_turns_hold rfl (by decide) (fun _ _ => rfl) (fun _ => rfl)) rfl
theorem ok_do_turns_hold (C : Gl K mg base tabs) : Known P w K mg base tabs 6 "do_turns_hold" 4 R_do_turns_hold := known_ofT (k := 5) C.d_do_turns_hold sc_do_turns_hold fun c T hT TB B F0 ds r _ hr => by
  obtain ⟨n1, roads2, k3, turns4, y, rfl, hy, rfl⟩ := hr
  exact (j_do_turns_hold C c T hT TB B F0 n1 roads2 k3 turns4).body hy
def R_is_splitting (ds : List PyData) (r : PyData) : Prop := ∃ (n1 : Int), ∃ (splitting2 : (List Int)), ∃ y, ds = [eI n1, (eT eI) splitting2] ∧ m_is_splitting n1 splitting2 = some y ∧ r = eB y
theorem j_is_splitting (C : Gl K mg base tabs) (c T : Addr) (hT : T ∈ tabs.G) (TB : GxR.TabB base mg c T) (B F0 : Hp) (n1 : Int) (splitting2 : (List Int)) : J (Stat.of P w K mg base ["n", "splitting", "at", "part"] (defScope s_is_splitting) 3 tabs (.ref c) B F0 "is_splitting") [.sh (eI n1), .sh ((eT eI) splitting2), .un, .un] (defBody s_is_splitting) (pT eB) (m_is_splitting n1 splitting2) := by
  unfold m_is_splitting
  refine j_ifR (t_cmp (c_neI (e_lenT (enc := eI) (xs := splitting2) rfl C.b_len (EJ.qt (e_var (i := 1) rfl (.inr (.inl rfl)) rfl)) (fun _ _ => rfl)) (e_var (i := 0) rfl (.inl rfl) rfl)) (nomark _)) (fun hc => ?_) (fun hc => ?_)
  · exact j_ret e_bl rfl
  · refine j_bind fun t6 ht6 => ?_
    exact j_ret (e_gxAll (own := [("at", 2), ("part", 3)]) (encA := (eP2 eI eI)) (xs := (enumI splitting2)) (f := (fun (x3 : (Int × Int)) => ((catO [(-(1 : Int))] (cut splitting2 none (some x3.1))).bind fun t4 => ((List.max? t4).bind fun t5 => (some (some ((decide ((0 : Int) ≤ x3.2)) && (decide (x3.2 ≤ (t5 + (1 : Int))))))))))) (Nat.le_of_ble_eq_true rfl) rfl hT TB rfl C.b_all (IW.x (IW.of (i_enumT rfl C.b_enumerate (e_var (i := 1) rfl (.inr (.inl rfl)) rfl) (fun _ _ => rfl)) enumD_map)) (fun _ x3 _ => (cb_bind fun t4 ht4 => (cb_bind fun t5 ht5 => (cb0T (y := ((decide ((0 : Int) ≤ x3.2)) && (decide (x3.2 ≤ (t5 + (1 : Int)))))) (g_tup (gs_cons (g_name (i := 2) ⟨nd_is_splitting, rfl, .inl rfl, .inr rfl⟩) (gs_cons (g_name (i := 3) ⟨nd_is_splitting, rfl, .inl rfl, .inr rfl⟩) gs_nil (fun _ _ => rfl)) (fun _ _ => rfl)) (fun _ => rfl) (fun _ => rfl)) (by decide) (e_chain (g := fun i j => decide (i ≤ j)) (g' := fun i j => decide (i ≤ j)) (fun _ => op_le) (fun _ => op_le) e_int (e_var (i := 3) rfl (.inl rfl) rfl) (fun _ => (e_add (e_maxT rfl C.b_max (e_catO (enc := eI) (EJ.of (d' := ((eT eI) [(-(1 : Int))])) (e_tup (a_cons (e_neg e_int) a_nil (fun _ _ => rfl)) (len_le (n := 1) rfl (by decide))) rfl) (e_slTT (enc := eI) (e_var (i := 1) rfl (.inr (.inr rfl)) rfl) o_none (o_some (e_var (i := 2) rfl (.inl rfl) rfl))) ht4) ht5 (fun _ _ => rfl)) e_int)) rfl))))) ht6 nd_is_splitting rfl (by decide) (fun _ _ => rfl) (fun _ => rfl)) rfl
theorem ok_is_splitting (C : Gl K mg base tabs) : Known P w K mg base tabs 4 "is_splitting" 2 R_is_splitting := known_ofT (k := 3) C.d_is_splitting sc_is_splitting fun c T hT TB B F0 ds r _ hr => by
  obtain ⟨n1, splitting2, y, rfl, hy, rfl⟩ := hr
  exact (j_is_splitting C c T hT TB B F0 n1 splitting2).body hy
def R_is_rift (ds : List PyData) (r : PyData) : Prop := ∃ (n1 : Int), ∃ (roads2 : (List (Int × Int))), ∃ (k3 : Int), ∃ (splitting4 : (List Int)), ∃ y, ds = [eI n1, (eT (eP2 eI eI)) roads2, eI k3, (eT eI) splitting4] ∧ m_is_rift n1 roads2 k3 splitting4 = some y ∧ r = eB y
theorem j_is_rift (C : Gl K mg base tabs) (cdv : Value) (B F0 : Hp) (n1 : Int) (roads2 : (List (Int × Int))) (k3 : Int) (splitting4 : (List Int)) : J (Stat.of P w K mg base ["n", "roads", "k", "splitting", "between", "a", "b"] (defScope s_is_rift) 4 tabs cdv B F0 "is_rift") [.sh (eI n1), .sh ((eT (eP2 eI eI)) roads2), .sh (eI k3), .sh ((eT eI) splitting4), .un, .un, .un] (defBody s_is_rift) (pT eB) (m_is_rift n1 roads2 k3 splitting4) := by
  unfold m_is_rift
  refine j_bind fun t7 ht7 => ?_
  refine j_ifR (TOp.elim (to_w (wo_or (to_bind fun t5 ht5 => (to_some (t_not (t_val (EJ.of (d' := eB t5) (e_callK (ok_is_splitting C) (Nat.le_of_ble_eq_true rfl) rfl (a_cons (e_var (i := 0) rfl (.inl rfl) rfl) (a_cons (e_var (i := 3) rfl (.inr (.inl rfl)) rfl) a_nil (fun _ _ => rfl)) (fun _ _ => rfl)) ⟨n1, splitting4, t5, rfl, ht5, rfl⟩ rfl (fun _ _ => rfl) (fun _ => rfl) (by decide)) rfl) (fun _ _ => rfl))))) fun _ => (wo_or1 (to_bind fun t6 ht6 => (to_some (t_cmp (c_eqI (e_maxT rfl C.b_max (e_var (i := 3) rfl (.inr (.inl rfl)) rfl) ht6 (fun _ _ => rfl)) e_int) (nomark _))))))) ht7) (fun hc => ?_) (fun hc => ?_)
  · exact j_ret e_bl rfl
  · refine j_bind fun between12 hl11 => ?_
    refine j_setLc (i := 4) (own := [("a", 5), ("b", 6)]) (encA := (eP2 eI eI)) (encB := eI) (xs := roads2) (f := (fun (x8 : (Int × Int)) => ((atI splitting4 x8.1).bind fun t9 => ((atI splitting4 x8.2).bind fun t10 => (if (!(decide (t9 = t10))) = true then (some (1 : Int)).bind (fun y => some (some y)) else some none))))) (ys := between12) ⟨nd_is_rift, rfl, .inl rfl, .inr rfl⟩ rfl (IW.x (i_tup (e_var (i := 1) rfl (.inl rfl) rfl))) (fun x8 _ => (cb_bind fun t9 ht9 => (cb_bind fun t10 ht10 => (cb1 (k := (!(decide (t9 = t10)))) (o := (some (1 : Int))) (g_tup (gs_cons (g_name (i := 5) ⟨nd_is_rift, rfl, .inl rfl, .inr rfl⟩) (gs_cons (g_name (i := 6) ⟨nd_is_rift, rfl, .inl rfl, .inr rfl⟩) gs_nil (fun _ _ => rfl)) (fun _ _ => rfl)) (fun _ => rfl) (fun _ => rfl)) (by decide) (t_cmp (c_neI (e_ixT (enc := eI) (xs := splitting4) (EJ.qt (e_var (i := 3) rfl (.inr (.inl rfl)) rfl)) (e_var (i := 5) rfl (.inl rfl) rfl) ht9 (fun _ _ => rfl)) (e_ixT (enc := eI) (xs := splitting4) (EJ.qt (e_var (i := 3) rfl (.inr (.inl rfl)) rfl)) (e_var (i := 6) rfl (.inl rfl) rfl) ht10 (fun _ _ => rfl))) (nomark _)) (fun _ => (eo_some (encB := eI) e_int)))))) hl11 rfl (by decide) (fun _ _ => rfl) rfl rfl rfl ?_
    refine j_share (j := 4) rfl ?_
    refine j_bind fun t13 ht13 => ?_
    refine j_bind fun t14 ht14 => ?_
    refine j_bind fun t15 ht15 => ?_
    exact j_ret (e_cmp (c_gt (e_mulO (e_var (i := 2) rfl (.inl rfl) rfl) (e_maxT rfl C.b_max (e_var (i := 3) rfl (.inr (.inl rfl)) rfl) ht13 (fun _ _ => rfl)) ht14) (e_mulO (e_sub (e_var (i := 2) rfl (.inl rfl) rfl) e_int) (e_lenT (enc := eI) (xs := between12) rfl C.b_len (EJ.ql (e_var (i := 4) rfl (.inl rfl) rfl)) (fun _ _ => rfl)) ht15)) (nomark _)) rfl
theorem ok_is_rift (C : Gl K mg base tabs) : Known P w K mg base tabs 5 "is_rift" 4 R_is_rift := known_of (k := 4) C.d_is_rift sc_is_rift fun cdv B F0 ds r _ hr => by
  obtain ⟨n1, roads2, k3, splitting4, y, rfl, hy, rfl⟩ := hr
  exact (j_is_rift C cdv B F0 n1 roads2 k3 splitting4).body hy
def R_all_splittings (ds : List PyData) (r : PyData) : Prop := ∃ (n1 : Int), ∃ y, ds = [eI n1] ∧ m_all_splittings n1 = some y ∧ r = (eL (eT eI)) y
theorem j_all_splittings (C : Gl K mg base tabs) (cdv : Value) (B F0 : Hp) (n1 : Int) : J (Stat.of P w K mg base ["n", "found", "_", "one", "part"] (defScope s_all_splittings) 0 tabs cdv B F0 "all_splittings") [.sh (eI n1), .un, .un, .un, .un] (defBody s_all_splittings) (pT (eL (eT eI))) (m_all_splittings n1) := by
  unfold m_all_splittings
  refine j_bind fun found2 hfound2 => ?_
  refine j_set (i := 1) ⟨nd_all_splittings, rfl, .inl rfl, .inr rfl⟩ (EJ.of (FJ.ej (FJ.of (ds' := List.map (eT eI) [([] : List Int)]) (f_lst (a_cons (EJ.of (d' := ((eT eI) ([] : List Int))) (e_tup a_nil (len_le (n := 0) rfl (by decide))) rfl) a_nil (fun _ _ => rfl)) (len_le (n := 1) rfl (by decide))) rfl)) (congrArg (eL (eT eI)) (Option.some.inj hfound2))) (fun _ _ => rfl) ?_
  refine j_bind fun r3 hr3 => ?_
  refine j_to (γ2 := [.sh (eI n1), .sh ((eL (eT eI)) found2), .un, .un, .un]) rfl ?_
  refine j_for (enc := eI) (xs := r3) (γ0 := fun (s4 : ((List (List Int)))) => [.un, .sh ((eL (eT eI)) s4), .un, .un, .un]) (t0 := (found2)) (i_range1O rfl C.b_range (e_var (i := 0) rfl (.inl rfl) rfl) (fun _ _ => rfl) hr3) (⟨rfl, trivial⟩) (fun s4 x5 hx5 => ⟨_, _, (g_name (i := 2) ⟨nd_all_splittings, rfl, .inl rfl, .inr rfl⟩), ?_⟩) (fun s4 => ?_) (fun _ _ => rfl)
  · refine j_bind fun found12 hfound12 => ?_
    refine j_setLc2 (i := 1) (own := [("one", 3), ("part", 4)]) (vs1 := [4]) (encA := (eT eI)) (encB := eI) (encC := (eT eI)) (xs := s4) (gi := (fun (x6 : (List Int)) => ((catO [(-(1 : Int))] x6).bind fun t8 => ((List.max? t8).bind fun t9 => ((rngO 0 (t9 + (2 : Int))).bind fun r10 => (some r10)))))) (f := (fun (x6 : (List Int)) (x7 : Int) => ((catO x6 [x7]).bind fun t11 => (some (some t11))))) (zs := found12) ⟨nd_all_splittings, rfl, .inl rfl, .inr rfl⟩ rfl (IW.x (i_list (e_var (i := 1) rfl (.inl rfl) rfl))) (fun x6 _ => (cb2l_bind fun t8 ht8 => (cb2l_bind fun t9 ht9 => (cb2l_bind fun r10 hr10 => (cb2l_0 (ys := r10) (g_name (i := 3) ⟨nd_all_splittings, rfl, .inl rfl, .inr rfl⟩) (by decide) (i_range1O rfl C.b_range (e_add (e_maxT rfl C.b_max (e_catO (enc := eI) (EJ.of (d' := ((eT eI) [(-(1 : Int))])) (e_tup (a_cons (e_neg e_int) a_nil (fun _ _ => rfl)) (len_le (n := 1) rfl (by decide))) rfl) (e_var (i := 3) rfl (.inl rfl) rfl) ht8) ht9 (fun _ _ => rfl)) e_int) (fun _ _ => rfl) hr10) (fun x7 _ => (cb_bind fun t11 ht11 => (cb0T (y := t11) (g_name (i := 4) ⟨nd_all_splittings, rfl, .inl rfl, .inr rfl⟩) (by decide) (e_catO (enc := eI) (e_var (i := 3) rfl (.inl rfl) rfl) (EJ.of (d' := ((eT eI) [x7])) (e_tup (a_cons (e_var (i := 4) rfl (.inl rfl) rfl) a_nil (fun _ _ => rfl)) (len_le (n := 1) rfl (by decide))) rfl) ht11)))) rfl))))) hfound12 rfl (by decide) (by decide) (by decide) (fun _ _ => rfl) (fun _ _ => rfl) rfl rfl rfl ?_
    refine j_share (j := 1) rfl ?_
    refine j_to (γ2 := [.un, .sh ((eL (eT eI)) found12), .sh (eI x5), .un, .un]) rfl ?_
    exact j_nil (⟨rfl, trivial⟩)
  · exact j_ret (e_var (i := 1) rfl (.inl rfl) rfl) rfl
theorem ok_all_splittings (C : Gl K mg base tabs) : Known P w K mg base tabs 1 "all_splittings" 1 R_all_splittings := known_of (k := 0) C.d_all_splittings sc_all_splittings fun cdv B F0 ds r _ hr => by
  obtain ⟨n1, y, rfl, hy, rfl⟩ := hr
  exact (j_all_splittings C cdv B F0 n1).body hy
def R_told_rift (ds : List PyData) (r : PyData) : Prop := ∃ (n1 : Int), ∃ (roads2 : (List (Int × Int))), ∃ (k3 : Int), ∃ y, ds = [eI n1, (eT (eP2 eI eI)) roads2, eI k3] ∧ m_told_rift n1 roads2 k3 = some y ∧ r = (eO (eT eI)) y
theorem j_told_rift (C : Gl K mg base tabs) (cdv : Value) (B F0 : Hp) (n1 : Int) (roads2 : (List (Int × Int))) (k3 : Int) : J (Stat.of P w K mg base ["n", "roads", "k", "splitting"] (defScope s_told_rift) 5 tabs cdv B F0 "told_rift") [.sh (eI n1), .sh ((eT (eP2 eI eI)) roads2), .sh (eI k3), .un] (defBody s_told_rift) (pT (eO (eT eI))) (m_told_rift n1 roads2 k3) := by
  unfold m_told_rift
  refine j_bind fun t4 ht4 => ?_
  refine j_to (γ2 := [.sh (eI n1), .sh ((eT (eP2 eI eI)) roads2), .sh (eI k3), .un]) rfl ?_
  refine j_forR (enc := (eT eI)) (xs := t4) (encR := (eO (eT eI))) (γ0 := fun (s5 : Unit) => [.sh (eI n1), .sh ((eT (eP2 eI eI)) roads2), .sh (eI k3), .un]) (t0 := ()) (i_list (EJ.of (d' := (eL (eT eI)) t4) (e_callK (ok_all_splittings C) (Nat.le_of_ble_eq_true rfl) rfl (a_cons (e_var (i := 0) rfl (.inl rfl) rfl) a_nil (fun _ _ => rfl)) ⟨n1, t4, rfl, ht4, rfl⟩ rfl (fun _ _ => rfl) (fun _ => rfl) (by decide)) rfl)) (⟨rfl, ⟨rfl, ⟨rfl, trivial⟩⟩⟩) (fun s5 x6 hx6 => ⟨_, _, (g_name (i := 3) ⟨nd_told_rift, rfl, .inl rfl, .inr rfl⟩), ?_⟩) (fun _ => rfl) (fun s5 => ?_) (fun _ _ => rfl)
  · refine j_bind fun t7 ht7 => ?_
    refine j_ifR (t_val (EJ.of (d' := eB t7) (e_callK (ok_is_rift C) (Nat.le_of_ble_eq_true rfl) rfl (a_cons (e_var (i := 0) rfl (.inl rfl) rfl) (a_cons (e_var (i := 1) rfl (.inl rfl) rfl) (a_cons (e_var (i := 2) rfl (.inl rfl) rfl) (a_cons (e_var (i := 3) rfl (.inl rfl) rfl) a_nil (fun _ _ => rfl)) (fun _ _ => rfl)) (fun _ _ => rfl)) (fun _ _ => rfl)) ⟨n1, roads2, k3, x6, t7, rfl, ht7, rfl⟩ rfl (fun _ _ => rfl) (fun _ => rfl) (by decide)) rfl) (fun _ _ => rfl)) (fun hc => ?_) (fun hc => ?_)
    · exact j_ret (EJ.into (enc := (eT eI)) (e_var (i := 3) rfl (.inl rfl) rfl)) rfl
    · refine j_to (γ2 := [.sh (eI n1), .sh ((eT (eP2 eI eI)) roads2), .sh (eI k3), .sh ((eT eI) x6)]) rfl ?_
      exact j_nil (⟨rfl, ⟨rfl, ⟨rfl, trivial⟩⟩⟩)
  · exact j_ret (EJ.of (d' := (eO (eT eI)) none) e_non rfl) rfl
theorem ok_told_rift (C : Gl K mg base tabs) : Known P w K mg base tabs 6 "told_rift" 3 R_told_rift := known_of (k := 5) C.d_told_rift sc_told_rift fun cdv B F0 ds r _ hr => by
  obtain ⟨n1, roads2, k3, y, rfl, hy, rfl⟩ := hr
  exact (j_told_rift C cdv B F0 n1 roads2 k3).body hy
def R_told_turns (ds : List PyData) (r : PyData) : Prop := ∃ (n1 : Int), ∃ (roads2 : (List (Int × Int))), ∃ (k3 : Int), ∃ y, ds = [eI n1, (eT (eP2 eI eI)) roads2, eI k3] ∧ m_told_turns n1 roads2 k3 = some y ∧ r = (eO (eT eI)) y
theorem j_told_turns (C : Gl K mg base tabs) (cdv : Value) (B F0 : Hp) (n1 : Int) (roads2 : (List (Int × Int))) (k3 : Int) : J (Stat.of P w K mg base ["n", "roads", "k", "waiting", "turns", "day"] (defScope s_told_turns) 6 tabs cdv B F0 "told_turns") [.sh (eI n1), .sh ((eT (eP2 eI eI)) roads2), .sh (eI k3), .un, .un, .un] (defBody s_told_turns) (pT (eO (eT eI))) (m_told_turns n1 roads2 k3) := by
  unfold m_told_turns
  refine j_bind fun t4 ht4 => ?_
  refine j_ifR (t_cmp (c_notN (EJ.of (d' := (eO (eT eI)) t4) (e_callK (ok_told_rift C) (Nat.le_of_ble_eq_true rfl) rfl (a_cons (e_var (i := 0) rfl (.inl rfl) rfl) (a_cons (e_var (i := 1) rfl (.inl rfl) rfl) (a_cons (e_var (i := 2) rfl (.inl rfl) rfl) a_nil (fun _ _ => rfl)) (fun _ _ => rfl)) (fun _ _ => rfl)) ⟨n1, roads2, k3, t4, rfl, ht4, rfl⟩ rfl (fun _ _ => rfl) (fun _ => rfl) (by decide)) rfl)) (nomark _)) (fun hc => ?_) (fun hc => ?_)
  · exact j_ret (EJ.of (d' := (eO (eT eI)) none) e_non rfl) rfl
  · refine j_bind fun waiting5 hwaiting5 => ?_
    refine j_setF (i := 3) ⟨nd_told_turns, rfl, .inl rfl, .inr rfl⟩ (FJ.of (FJ.of (ds' := List.map (eT eI) [([] : List Int)]) (f_lst (a_cons (EJ.of (d' := ((eT eI) ([] : List Int))) (e_tup a_nil (len_le (n := 0) rfl (by decide))) rfl) a_nil (fun _ _ => rfl)) (len_le (n := 1) rfl (by decide))) rfl) (congrArg (List.map (eT eI)) (Option.some.inj hwaiting5))) (fun _ _ => rfl) ?_
    refine j_to (γ2 := [.sh (eI n1), .sh ((eT (eP2 eI eI)) roads2), .sh (eI k3), .ow (.list (List.map (eT eI) waiting5)), .un, .un]) rfl ?_
    refine j_while (encR := (eO (eT eI))) (γ0 := fun (s6 : ((List (List Int)))) => [.sh (eI n1), .sh ((eT (eP2 eI eI)) roads2), .sh (eI k3), .ow (.list (List.map (eT eI) s6)), .un, .un]) (t0 := (waiting5)) (n := 100000) (⟨rfl, ⟨rfl, ⟨rfl, ⟨rfl, trivial⟩⟩⟩⟩) (fun s6 k hk => (to_some (TJ.of (t_seq (q_own (i := 3) (ds := List.map (eT eI) s6) rfl (.inl rfl) rfl) (fun _ _ => rfl)) (by simp))) k hk) (fun s6 _ => ?_) (fun r => rfl) (fun s6 => ?_)
    · refine j_bind fun p7 hp7 => ?_
      refine j_pop (i := 4) (j := 3) (enc := (eT eI)) (xs := s6) (y := p7.1) (ys := p7.2) ⟨nd_told_turns, rfl, .inl rfl, .inr rfl⟩ rfl (.inl rfl) rfl hp7 (by decide) (by decide) (fun _ => rfl) rfl (fun _ _ => rfl) ?_
      refine j_ifR (t_cmp (c_eqI (e_lenT (enc := eI) (xs := p7.1) rfl C.b_len (EJ.qt (e_var (i := 4) rfl (.inl rfl) rfl)) (fun _ _ => rfl)) (e_lenT (enc := (eP2 eI eI)) (xs := roads2) rfl C.b_len (EJ.qt (e_var (i := 1) rfl (.inl rfl) rfl)) (fun _ _ => rfl))) (nomark _)) (fun hc => ?_) (fun hc => ?_)
      · exact j_ret (EJ.into (enc := (eT eI)) (e_var (i := 4) rfl (.inl rfl) rfl)) rfl
      · refine j_bind fun r8 hr8 => ?_
        refine j_to (γ2 := [.sh (eI n1), .sh ((eT (eP2 eI eI)) roads2), .sh (eI k3), .ow (.list (List.map (eT eI) p7.2)), .sh ((eT eI) p7.1), .un]) rfl ?_
        refine j_for (enc := eI) (xs := r8) (γ0 := fun (s9 : ((List (List Int)))) => [.sh (eI n1), .sh ((eT (eP2 eI eI)) roads2), .sh (eI k3), .ow (.list (List.map (eT eI) s9)), .sh ((eT eI) p7.1), .un]) (t0 := (p7.2)) (i_range3O rfl C.b_range (e_sub (e_var (i := 2) rfl (.inl rfl) rfl) e_int) (e_neg e_int) (e_neg e_int) (fun _ _ => rfl) (fun _ _ => rfl) (fun _ _ => rfl) hr8) (⟨rfl, ⟨rfl, ⟨rfl, ⟨rfl, ⟨rfl, trivial⟩⟩⟩⟩⟩) (fun s9 x10 hx10 => ⟨_, _, (g_name (i := 5) ⟨nd_told_turns, rfl, .inl rfl, .inr rfl⟩), ?_⟩) (fun s9 => ?_) (fun _ _ => rfl)
        · refine j_bind fun t11 ht11 => ?_
          refine j_bind fun t12 ht12 => ?_
          refine j_ifJ (γj := fun (j15 : ((List (List Int)))) => [.sh (eI n1), .sh ((eT (eP2 eI eI)) roads2), .sh (eI k3), .ow (.list (List.map (eT eI) j15)), .sh ((eT eI) p7.1), .un]) (t_val (EJ.of (d' := eB t12) (e_callK (ok_does_day_hold C) (Nat.le_of_ble_eq_true rfl) rfl (a_cons (e_var (i := 0) rfl (.inl rfl) rfl) (a_cons (e_var (i := 1) rfl (.inl rfl) rfl) (a_cons (e_catO (enc := eI) (e_var (i := 4) rfl (.inl rfl) rfl) (EJ.of (d' := ((eT eI) [x10])) (e_tup (a_cons (e_var (i := 5) rfl (.inl rfl) rfl) a_nil (fun _ _ => rfl)) (len_le (n := 1) rfl (by decide))) rfl) ht11) (a_cons (e_var (i := 5) rfl (.inl rfl) rfl) a_nil (fun _ _ => rfl)) (fun _ _ => rfl)) (fun _ _ => rfl)) (fun _ _ => rfl)) ⟨n1, roads2, t11, x10, t12, rfl, ht12, rfl⟩ rfl (fun _ _ => rfl) (fun _ => rfl) (by decide)) rfl) (fun _ _ => rfl)) (fun hc => ?_) (fun hc => ?_) (fun j15 => ?_)
          · refine j_bind fun t16 ht16 => ?_
            refine j_bind fun waiting17 hwaiting17 => ?_
            refine j_appO (j := 3) (enc := (eT eI)) (xs := s9) (zs := waiting17) rfl (.inl rfl) rfl (e_catO (enc := eI) (e_var (i := 4) rfl (.inl rfl) rfl) (EJ.of (d' := ((eT eI) [x10])) (e_tup (a_cons (e_var (i := 5) rfl (.inl rfl) rfl) a_nil (fun _ _ => rfl)) (len_le (n := 1) rfl (by decide))) rfl) ht16) hwaiting17 (fun _ _ => rfl) (by decide) (by decide) (fun _ => rfl) rfl ?_
            refine j_to (γ2 := [.sh (eI n1), .sh ((eT (eP2 eI eI)) roads2), .sh (eI k3), .ow (.list (List.map (eT eI) waiting17)), .sh ((eT eI) p7.1), .sh (eI x10)]) rfl ?_
            exact j_nil (⟨rfl, ⟨rfl, ⟨rfl, ⟨rfl, ⟨rfl, trivial⟩⟩⟩⟩⟩)
          · refine j_to (γ2 := [.sh (eI n1), .sh ((eT (eP2 eI eI)) roads2), .sh (eI k3), .ow (.list (List.map (eT eI) s9)), .sh ((eT eI) p7.1), .sh (eI x10)]) rfl ?_
            exact j_nil (⟨rfl, ⟨rfl, ⟨rfl, ⟨rfl, ⟨rfl, trivial⟩⟩⟩⟩⟩)
          · refine j_to (γ2 := [.sh (eI n1), .sh ((eT (eP2 eI eI)) roads2), .sh (eI k3), .ow (.list (List.map (eT eI) j15)), .sh ((eT eI) p7.1), .un]) rfl ?_
            exact j_nil (⟨rfl, ⟨rfl, ⟨rfl, ⟨rfl, ⟨rfl, trivial⟩⟩⟩⟩⟩)
        · refine j_to (γ2 := [.sh (eI n1), .sh ((eT (eP2 eI eI)) roads2), .sh (eI k3), .ow (.list (List.map (eT eI) s9)), .sh ((eT eI) p7.1), .un]) rfl ?_
          exact j_nil (⟨rfl, ⟨rfl, ⟨rfl, ⟨rfl, trivial⟩⟩⟩⟩)
    · exact j_ret (EJ.of (d' := (eO (eT eI)) none) e_non rfl) rfl
theorem ok_told_turns (C : Gl K mg base tabs) : Known P w K mg base tabs 7 "told_turns" 3 R_told_turns := known_of (k := 6) C.d_told_turns sc_told_turns fun cdv B F0 ds r _ hr => by
  obtain ⟨n1, roads2, k3, y, rfl, hy, rfl⟩ := hr
  exact (j_told_turns C cdv B F0 n1 roads2 k3).body hy
def R__law_cell (ds : List PyData) (r : PyData) : Prop := ∃ (script1 : (List Int)), ∃ (k2 : Int), ∃ y, ds = [(eL eI) script1, eI k2] ∧ m__law_cell script1 k2 = some y ∧ r = eI y
theorem j__law_cell (C : Gl K mg base tabs) (cdv : Value) (B F0 : Hp) (script1 : (List Int)) (k2 : Int) : J (Stat.of P w K mg base ["script", "k"] (defScope s__law_cell) 0 tabs cdv B F0 "_law_cell") [.sh ((eL eI) script1), .sh (eI k2)] (defBody s__law_cell) (pT eI) (m__law_cell script1 k2) := by
  unfold m__law_cell
  refine j_ifR (t_cmp (c_lt (e_var (i := 1) rfl (.inl rfl) rfl) (e_lenT (enc := eI) (xs := script1) rfl C.b_len (EJ.ql (e_var (i := 0) rfl (.inl rfl) rfl)) (fun _ _ => rfl))) (nomark _)) (fun hc => ?_) (fun hc => ?_)
  · refine j_bind fun t3 ht3 => ?_
    exact j_ret (e_ixT (enc := eI) (xs := script1) (EJ.ql (e_var (i := 0) rfl (.inl rfl) rfl)) (e_var (i := 1) rfl (.inl rfl) rfl) ht3 (fun _ _ => rfl)) rfl
  · exact j_ret (e_add (e_mul e_int (e_var (i := 1) rfl (.inl rfl) rfl) (.inl (by decide))) e_int) rfl
theorem ok__law_cell (C : Gl K mg base tabs) : Known P w K mg base tabs 1 "_law_cell" 2 R__law_cell := known_of (k := 0) C.d__law_cell sc__law_cell fun cdv B F0 ds r _ hr => by
  obtain ⟨script1, k2, y, rfl, hy, rfl⟩ := hr
  exact (j__law_cell C cdv B F0 script1 k2).body hy
def R__law_draws (ds : List PyData) (r : PyData) : Prop := ∃ (cell1 : Int), ∃ (count2 : Int), ∃ y, ds = [eI cell1, eI count2] ∧ m__law_draws cell1 count2 = some y ∧ r = (eL eI) y
theorem j__law_draws (C : Gl K mg base tabs) (cdv : Value) (B F0 : Hp) (cell1 : Int) (count2 : Int) : J (Stat.of P w K mg base ["cell", "count", "rest", "digits", "seed", "draws", "k", "mixed"] (defScope s__law_draws) 0 tabs cdv B F0 "_law_draws") [.sh (eI cell1), .sh (eI count2), .un, .un, .un, .un, .un, .un] (defBody s__law_draws) (pT (eL eI)) (m__law_draws cell1 count2) := by
  unfold m__law_draws
  refine j_bind fun rest3 hrest3 => ?_
  refine j_set (i := 2) ⟨nd__law_draws, rfl, .inl rfl, .inr rfl⟩ (EJ.of (e_abs rfl C.b_abs (e_int1 rfl C.b_int (e_var (i := 0) rfl (.inl rfl) rfl) (fun _ _ => rfl)) (fun _ _ => rfl)) (congrArg eI (Option.some.inj hrest3))) (fun _ _ => rfl) ?_
  refine j_bind fun digits4 hdigits4 => ?_
  refine j_set (i := 3) ⟨nd__law_draws, rfl, .inl rfl, .inr rfl⟩ (EJ.of (e_cmp (c_ge (e_var (i := 2) rfl (.inl rfl) rfl) (EJ.of (d' := .int 1000000000000000000) (e_pow e_int e_int ⟨by decide, by decide, by decide⟩) rfl)) (nomark _)) (congrArg eB (Option.some.inj hdigits4))) (fun _ _ => rfl) ?_
  refine j_bind fun seed5 hseed5 => ?_
  refine j_set (i := 4) ⟨nd__law_draws, rfl, .inl rfl, .inr rfl⟩ (EJ.of (e_var (i := 2) rfl (.inl rfl) rfl) (congrArg eI (Option.some.inj hseed5))) (fun _ _ => rfl) ?_
  refine j_bind fun draws6 hdraws6 => ?_
  refine j_setF (i := 5) ⟨nd__law_draws, rfl, .inl rfl, .inr rfl⟩ (FJ.of (FJ.of (ds' := List.map eI ([] : List Int)) (f_lst a_nil (len_le (n := 0) rfl (by decide))) rfl) (congrArg (List.map eI) (Option.some.inj hdraws6))) (fun _ _ => rfl) ?_
  refine j_bind fun r7 hr7 => ?_
  refine j_to (γ2 := [.sh (eI cell1), .sh (eI count2), .sh (eI rest3), .sh (eB digits4), .sh (eI seed5), .ow (.list (List.map eI draws6)), .un, .un]) rfl ?_
  refine j_for (enc := eI) (xs := r7) (γ0 := fun (s8 : (Int × (List Int))) => [.un, .un, .sh (eI s8.1), .sh (eB digits4), .sh (eI seed5), .ow (.list (List.map eI s8.2)), .un, .un]) (t0 := (rest3, draws6)) (i_range1O rfl C.b_range (e_var (i := 1) rfl (.inl rfl) rfl) (fun _ _ => rfl) hr7) (⟨rfl, ⟨rfl, ⟨rfl, ⟨rfl, trivial⟩⟩⟩⟩) (fun s8 x9 hx9 => ⟨_, _, (g_name (i := 6) ⟨nd__law_draws, rfl, .inl rfl, .inr rfl⟩), ?_⟩) (fun s8 => ?_) (fun _ _ => rfl)
  · refine j_ifJ (γj := fun (j16 : (Int × (List Int))) => [.un, .un, .sh (eI j16.1), .sh (eB digits4), .sh (eI seed5), .ow (.list (List.map eI j16.2)), .un, .un]) (t_w (w_and (t_val (e_var (i := 3) rfl (.inl rfl) rfl) (fun _ _ => rfl)) fun _ => (w_and1 (t_cmp (c_gt (e_var (i := 2) rfl (.inl rfl) rfl) e_int) (nomark _))))) (fun hc => ?_) (fun hc => ?_) (fun j16 => ?_)
    · refine j_bind fun draws17 hdraws17 => ?_
      refine j_appO (j := 5) (enc := eI) (xs := s8.2) (zs := draws17) rfl (.inl rfl) rfl (e_mod (e_int1 rfl C.b_int (e_var (i := 2) rfl (.inl rfl) rfl) (fun _ _ => rfl)) e_int (by decide)) hdraws17 (fun _ _ => rfl) (by decide) (by decide) (fun _ => rfl) rfl ?_
      refine j_bind fun rest18 hrest18 => ?_
      refine j_set (i := 2) ⟨nd__law_draws, rfl, .inl rfl, .inr rfl⟩ (EJ.of (e_fdiv (e_var (i := 2) rfl (.inl rfl) rfl) e_int ⟨by decide, by decide⟩) (congrArg eI (Option.some.inj hrest18))) (fun _ _ => rfl) ?_
      refine j_to (γ2 := [.un, .un, .sh (eI rest18), .sh (eB digits4), .sh (eI seed5), .ow (.list (List.map eI draws17)), .sh (eI x9), .un]) rfl ?_
      exact j_nil (⟨rfl, ⟨rfl, ⟨rfl, ⟨rfl, trivial⟩⟩⟩⟩)
    · refine j_bind fun mixed19 hmixed19 => ?_
      refine j_set (i := 7) ⟨nd__law_draws, rfl, .inl rfl, .inr rfl⟩ (EJ.of (e_mod (e_int1 rfl C.b_int (e_add (e_add (e_mul (e_var (i := 4) rfl (.inl rfl) rfl) e_int (.inr (by decide))) (e_mul (e_add (e_var (i := 6) rfl (.inl rfl) rfl) e_int) e_int (.inr (by decide)))) e_int) (fun _ _ => rfl)) e_int (by decide)) (congrArg eI (Option.some.inj hmixed19))) (fun _ _ => rfl) ?_
      refine j_bind fun t20 ht20 => ?_
      refine j_bind fun mixed21 hmixed21 => ?_
      refine j_set (i := 7) ⟨nd__law_draws, rfl, .inl rfl, .inr rfl⟩ (EJ.of (e_mod (e_int1 rfl C.b_int (e_add (e_mulO (e_var (i := 7) rfl (.inl rfl) rfl) (e_var (i := 7) rfl (.inl rfl) rfl) ht20) (e_mul e_int (e_add (e_var (i := 6) rfl (.inl rfl) rfl) e_int) (.inl (by decide)))) (fun _ _ => rfl)) e_int (by decide)) (congrArg eI (Option.some.inj hmixed21))) (fun _ _ => rfl) ?_
      refine j_bind fun draws22 hdraws22 => ?_
      refine j_appO (j := 5) (enc := eI) (xs := s8.2) (zs := draws22) rfl (.inl rfl) rfl (e_mod (e_int1 rfl C.b_int (e_fdiv (e_var (i := 7) rfl (.inl rfl) rfl) e_int ⟨by decide, by decide⟩) (fun _ _ => rfl)) e_int (by decide)) hdraws22 (fun _ _ => rfl) (by decide) (by decide) (fun _ => rfl) rfl ?_
      refine j_to (γ2 := [.un, .un, .sh (eI s8.1), .sh (eB digits4), .sh (eI seed5), .ow (.list (List.map eI draws22)), .sh (eI x9), .sh (eI mixed21)]) rfl ?_
      exact j_nil (⟨rfl, ⟨rfl, ⟨rfl, ⟨rfl, trivial⟩⟩⟩⟩)
    · refine j_to (γ2 := [.un, .un, .sh (eI j16.1), .sh (eB digits4), .sh (eI seed5), .ow (.list (List.map eI j16.2)), .un, .un]) rfl ?_
      exact j_nil (⟨rfl, ⟨rfl, ⟨rfl, ⟨rfl, trivial⟩⟩⟩⟩)
  · refine j_share (j := 5) rfl ?_
    exact j_ret (e_var (i := 5) rfl (.inl rfl) rfl) rfl
theorem ok__law_draws (C : Gl K mg base tabs) : Known P w K mg base tabs 1 "_law_draws" 2 R__law_draws := known_of (k := 0) C.d__law_draws sc__law_draws fun cdv B F0 ds r _ hr => by
  obtain ⟨cell1, count2, y, rfl, hy, rfl⟩ := hr
  exact (j__law_draws C cdv B F0 cell1 count2).body hy
def R__law_is_integer (ds : List PyData) (r : PyData) : Prop := ∃ (value1 : PyData), ∃ y, ds = [eD value1] ∧ m__law_is_integer value1 = some y ∧ r = eB y
theorem j__law_is_integer (C : Gl K mg base tabs) (cdv : Value) (B F0 : Hp) (value1 : PyData) : J (Stat.of P w K mg base ["value"] (defScope s__law_is_integer) 0 tabs cdv B F0 "_law_is_integer") [.sh (eD value1)] (defBody s__law_is_integer) (pT eB) (m__law_is_integer value1) := by
  unfold m__law_is_integer
  exact j_ret (e_and (e_isi rfl C.b_isinstance rfl C.b_int rfl (e_var (i := 0) rfl (.inl rfl) rfl) (fun _ _ => rfl) (kit_int _) (fun _ => rfl) (by decide) rfl) fun _ => (e_one (e_not (e_isi rfl C.b_isinstance rfl C.b_bool rfl (e_var (i := 0) rfl (.inl rfl) rfl) (fun _ _ => rfl) (kit_bool _) (fun _ => rfl) (by decide) rfl)))) rfl
theorem ok__law_is_integer (C : Gl K mg base tabs) : Known P w K mg base tabs 1 "_law_is_integer" 1 R__law_is_integer := known_of (k := 0) C.d__law_is_integer sc__law_is_integer fun cdv B F0 ds r _ hr => by
  obtain ⟨value1, y, rfl, hy, rfl⟩ := hr
  exact (j__law_is_integer C cdv B F0 value1).body hy
def R__law_is (ds : List PyData) (r : PyData) : Prop := ∃ v d y, ds = [v, d] ∧ m__law_is v d = some y ∧ r = eB y
def RLk (k : Nat) (ds : List PyData) (r : PyData) : Prop := ∃ v d, ds = [v, d] ∧ okD k d = true ∧ r = .bool (lawIs v d)
theorem j__law_is (C : Gl K mg base tabs) (G0 : Known P w K mg base tabs 1 "_law_is_integer" 1 R__law_is_integer) (cdv : Value) (B F0 : Hp) (lv : Nat) (hlv : 1 ≤ lv) (v d : PyData)
    (hG : ∀ ds, d = .tuple ds ∨ d = .list ds → ds.length ≤ 8388608 ∧ ∃ Rk, Known P w K mg base tabs lv "_law_is" 2 Rk ∧ ∀ e ∈ ds, ∀ v, Rk [v, e] (.bool (lawIs v e))) (hd : ∀ x, d ≠ .dict x) :
    J (Stat.of P w K mg base ["value", "due", "at"] (defScope s__law_is) lv tabs cdv B F0 "_law_is") [.sh v, .sh d, .un] (defBody s__law_is) (pT eB) (some (lawIs v d)) := by
  cases d with
  | none =>
    refine j_ifT (TJ.of (t_cmp (c_isN (e_var (i := 1) rfl (.inr (.inl rfl)) rfl)) (nomark _)) rfl) ?_
    exact j_ret (e_cmp (c_isN (e_var (i := 0) rfl (.inr (.inl rfl)) rfl)) (nomark _)) (by rw [lawIs]; rfl)
  | bool b =>
    refine j_ifF (TJ.of (t_cmp (c_isN (e_var (i := 1) rfl (.inr (.inl rfl)) rfl)) (nomark _)) rfl) ?_
    refine j_ifT (TJ.of (t_val (e_isi rfl C.b_isinstance rfl C.b_bool rfl (e_var (i := 1) rfl (.inr (.inl rfl)) rfl) (fun _ _ => rfl) (kit_bool _) (fun _ => rfl) (by decide) rfl) (fun _ _ => rfl)) rfl) ?_
    by_cases hv : isInst "bool" v = true
    · obtain ⟨c, rfl⟩ := is_bool hv
      exact j_ret (d := .bool (true && decide (c = b))) (e_and (k := true) (EJ.of (e_isi rfl C.b_isinstance rfl C.b_bool rfl (e_var (i := 0) rfl (.inr (.inl rfl)) rfl) (fun _ _ => rfl) (kit_bool _) (fun _ => rfl) (by decide) rfl) rfl) fun _ => e_one (e_cmp (c_eqB (e_var (i := 0) rfl (.inr (.inl rfl)) rfl) (e_var (i := 1) rfl (.inr (.inl rfl)) rfl)) (nomark _))) (by rw [lawIs]; rfl)
    · have hv' : isInst "bool" v = false := Bool.eq_false_iff.mpr hv
      exact j_ret (d := .bool (false && false)) (e_and (k := false) (EJ.of (e_isi rfl C.b_isinstance rfl C.b_bool rfl (e_var (i := 0) rfl (.inr (.inl rfl)) rfl) (fun _ _ => rfl) (kit_bool _) (fun _ => rfl) (by decide) rfl) (by rw [hv'])) fun z => by cases z) (by rw [no_bool hv']; rfl)
  | int b =>
    refine j_ifF (TJ.of (t_cmp (c_isN (e_var (i := 1) rfl (.inr (.inl rfl)) rfl)) (nomark _)) rfl) ?_
    refine j_ifF (TJ.of (t_val (e_isi rfl C.b_isinstance rfl C.b_bool rfl (e_var (i := 1) rfl (.inr (.inl rfl)) rfl) (fun _ _ => rfl) (kit_bool _) (fun _ => rfl) (by decide) rfl) (fun _ _ => rfl)) rfl) ?_
    refine j_ifT (TJ.of (t_val (e_isi rfl C.b_isinstance rfl C.b_int rfl (e_var (i := 1) rfl (.inr (.inl rfl)) rfl) (fun _ _ => rfl) (kit_int _) (fun _ => rfl) (by decide) rfl) (fun _ _ => rfl)) rfl) ?_
    by_cases hv : (isInst "int" v && !isInst "bool" v) = true
    · obtain ⟨c, rfl⟩ := is_int hv
      exact j_ret (d := .bool (true && decide (c = b))) (e_and (k := true) (e_callK G0 hlv rfl (a_cons (e_var (i := 0) rfl (.inr (.inl rfl)) rfl) a_nil (fun _ _ => rfl)) ⟨_, _, rfl, rfl, rfl⟩ rfl (fun _ _ => rfl) (fun _ => rfl) (by decide)) fun _ => e_one (e_cmp (c_eqI (e_var (i := 0) rfl (.inr (.inl rfl)) rfl) (e_var (i := 1) rfl (.inr (.inl rfl)) rfl)) (nomark _))) (by rw [lawIs]; rfl)
    · have hv' : (isInst "int" v && !isInst "bool" v) = false := Bool.eq_false_iff.mpr hv
      exact j_ret (d := .bool (false && false)) (e_and (k := false) (e_callK G0 hlv rfl (a_cons (e_var (i := 0) rfl (.inr (.inl rfl)) rfl) a_nil (fun _ _ => rfl)) ⟨v, _, rfl, rfl, by rw [show (isInst "int" (eD v) && !isInst "bool" (eD v)) = false from hv']⟩ rfl (fun _ _ => rfl) (fun _ => rfl) (by decide)) fun z => by cases z) (by rw [no_int hv']; rfl)
  | str b =>
    refine j_ifF (TJ.of (t_cmp (c_isN (e_var (i := 1) rfl (.inr (.inl rfl)) rfl)) (nomark _)) rfl) ?_
    refine j_ifF (TJ.of (t_val (e_isi rfl C.b_isinstance rfl C.b_bool rfl (e_var (i := 1) rfl (.inr (.inl rfl)) rfl) (fun _ _ => rfl) (kit_bool _) (fun _ => rfl) (by decide) rfl) (fun _ _ => rfl)) rfl) ?_
    refine j_ifF (TJ.of (t_val (e_isi rfl C.b_isinstance rfl C.b_int rfl (e_var (i := 1) rfl (.inr (.inl rfl)) rfl) (fun _ _ => rfl) (kit_int _) (fun _ => rfl) (by decide) rfl) (fun _ _ => rfl)) rfl) ?_
    refine j_ifT (TJ.of (t_val (e_isi rfl C.b_isinstance rfl C.b_str rfl (e_var (i := 1) rfl (.inr (.inl rfl)) rfl) (fun _ _ => rfl) (kit_str _) (fun _ => rfl) (by decide) rfl) (fun _ _ => rfl)) rfl) ?_
    by_cases hv : isInst "str" v = true
    · obtain ⟨c, rfl⟩ := is_str hv
      exact j_ret (d := .bool (true && decide (c = b))) (e_and (k := true) (EJ.of (e_isi rfl C.b_isinstance rfl C.b_str rfl (e_var (i := 0) rfl (.inr (.inl rfl)) rfl) (fun _ _ => rfl) (kit_str _) (fun _ => rfl) (by decide) rfl) rfl) fun _ => e_one (e_cmp (c_eqStr (e_var (i := 0) rfl (.inr (.inl rfl)) rfl) (e_var (i := 1) rfl (.inr (.inl rfl)) rfl)) (nomark _))) (by rw [lawIs]; rfl)
    · have hv' : isInst "str" v = false := Bool.eq_false_iff.mpr hv
      exact j_ret (d := .bool (false && false)) (e_and (k := false) (EJ.of (e_isi rfl C.b_isinstance rfl C.b_str rfl (e_var (i := 0) rfl (.inr (.inl rfl)) rfl) (fun _ _ => rfl) (kit_str _) (fun _ => rfl) (by decide) rfl) (by rw [hv'])) fun z => by cases z) (by rw [no_str hv']; rfl)
  | tuple ds =>
    refine j_ifF (TJ.of (t_cmp (c_isN (e_var (i := 1) rfl (.inr (.inl rfl)) rfl)) (nomark _)) rfl) ?_
    refine j_ifF (TJ.of (t_val (e_isi rfl C.b_isinstance rfl C.b_bool rfl (e_var (i := 1) rfl (.inr (.inl rfl)) rfl) (fun _ _ => rfl) (kit_bool _) (fun _ => rfl) (by decide) rfl) (fun _ _ => rfl)) rfl) ?_
    refine j_ifF (TJ.of (t_val (e_isi rfl C.b_isinstance rfl C.b_int rfl (e_var (i := 1) rfl (.inr (.inl rfl)) rfl) (fun _ _ => rfl) (kit_int _) (fun _ => rfl) (by decide) rfl) (fun _ _ => rfl)) rfl) ?_
    refine j_ifF (TJ.of (t_val (e_isi rfl C.b_isinstance rfl C.b_str rfl (e_var (i := 1) rfl (.inr (.inl rfl)) rfl) (fun _ _ => rfl) (kit_str _) (fun _ => rfl) (by decide) rfl) (fun _ _ => rfl)) rfl) ?_
    obtain ⟨hl, Rk, GK, hR⟩ := hG ds (.inl rfl)
    by_cases hv : isInst "tuple" v = true
    · obtain ⟨vs, rfl⟩ := is_tup hv
      by_cases hn : vs.length = ds.length
      · refine j_ifF (TJ.of (t_w (w_or (t_not (t_val (e_isi rfl C.b_isinstance rfl C.b_tuple rfl (e_var (i := 0) rfl (.inr (.inl rfl)) rfl) (fun _ _ => rfl) (kit_tuple _) (fun _ => rfl) (by decide) rfl) (fun _ _ => rfl))) fun _ => w_or1 (t_cmp (c_neI (e_len rfl C.b_len (e_var (i := 0) rfl (.inr (.inl rfl)) rfl).qt (fun _ _ => rfl)) (e_len rfl C.b_len (e_var (i := 1) rfl (.inr (.inl rfl)) rfl).qt (fun _ _ => rfl))) (nomark _)))) ?_) ?_
        · rw [hn, decide_eq_true rfl]; rfl
        · refine j_ret (e_all (bs := (vs.zip ds).map fun p => lawIs p.1 p.2) rfl C.b_all (FJ.q (f_lc (own := [("at", 2)]) (enc := eI) (encB := eB) (xs := rng 0 (ds.length : Int)) (f := fun i => (atI (vs.zip ds) i).bind fun p => some (some (lawIs p.1 p.2)))
            (IW.x (i_range1 rfl C.b_range (e_len rfl C.b_len (e_var (i := 1) rfl (.inr (.inl rfl)) rfl).qt (fun _ _ => rfl)) (fun _ _ => rfl) ⟨by decide, by decide, by omega, by omega⟩))
            (fun i hi => cb_bind fun p hp => cb0T (g_name (i := 2) ⟨nd__law_is, rfl, .inl rfl, .inr rfl⟩) (by decide)
              (e_callK GK (Nat.le_refl _) rfl (a_cons (e_ix (e_var (i := 0) rfl (.inr (.inl rfl)) rfl).qt (e_var (i := 2) rfl (.inl rfl) rfl) (atI_zip (mem_rng.mp hi).1 hp).1 (fun _ _ => rfl)) (a_cons (e_ix (e_var (i := 1) rfl (.inr (.inl rfl)) rfl).qt (e_var (i := 2) rfl (.inl rfl) rfl) (atI_zip (mem_rng.mp hi).1 hp).2 (fun _ _ => rfl)) a_nil (fun _ _ => rfl)) (fun _ _ => rfl))
                (hR _ (mem_at (atI_zip (mem_rng.mp hi).1 hp).2) _) rfl (fun _ _ => rfl) (fun _ => rfl) (by decide)))
            (compM_at (by rw [List.length_zip, hn, Nat.min_self])) nd__law_is rfl (by decide) (fun _ _ => rfl))) (fun _ _ => rfl)) ?_
          rw [lawAll_zip hn]
          show _ = PyData.bool _
          rw [lawIs]
      · refine j_ifT (TJ.of (t_w (w_or (t_not (t_val (e_isi rfl C.b_isinstance rfl C.b_tuple rfl (e_var (i := 0) rfl (.inr (.inl rfl)) rfl) (fun _ _ => rfl) (kit_tuple _) (fun _ => rfl) (by decide) rfl) (fun _ _ => rfl))) fun _ => w_or1 (t_cmp (c_neI (e_len rfl C.b_len (e_var (i := 0) rfl (.inr (.inl rfl)) rfl).qt (fun _ _ => rfl)) (e_len rfl C.b_len (e_var (i := 1) rfl (.inr (.inl rfl)) rfl).qt (fun _ _ => rfl))) (nomark _)))) ?_) ?_
        · rw [decide_eq_false (by omega)]; simp
        · exact j_ret e_bl (by rw [lawIs, lawAll_len hn]; rfl)
    · have hv' : isInst "tuple" v = false := Bool.eq_false_iff.mpr hv
      refine j_ifT (TJ.of (t_w (w_or (k := true) (l := true) (TJ.of (t_not (t_val (e_isi rfl C.b_isinstance rfl C.b_tuple rfl (e_var (i := 0) rfl (.inr (.inl rfl)) rfl) (fun _ _ => rfl) (kit_tuple _) (fun _ => rfl) (by decide) rfl) (fun _ _ => rfl))) (by rw [hv']; rfl)) fun z => by cases z)) rfl) ?_
      exact j_ret e_bl (by rw [(no_tup hv').1]; rfl)
  | list ds =>
    refine j_ifF (TJ.of (t_cmp (c_isN (e_var (i := 1) rfl (.inr (.inl rfl)) rfl)) (nomark _)) rfl) ?_
    refine j_ifF (TJ.of (t_val (e_isi rfl C.b_isinstance rfl C.b_bool rfl (e_var (i := 1) rfl (.inr (.inl rfl)) rfl) (fun _ _ => rfl) (kit_bool _) (fun _ => rfl) (by decide) rfl) (fun _ _ => rfl)) rfl) ?_
    refine j_ifF (TJ.of (t_val (e_isi rfl C.b_isinstance rfl C.b_int rfl (e_var (i := 1) rfl (.inr (.inl rfl)) rfl) (fun _ _ => rfl) (kit_int _) (fun _ => rfl) (by decide) rfl) (fun _ _ => rfl)) rfl) ?_
    refine j_ifF (TJ.of (t_val (e_isi rfl C.b_isinstance rfl C.b_str rfl (e_var (i := 1) rfl (.inr (.inl rfl)) rfl) (fun _ _ => rfl) (kit_str _) (fun _ => rfl) (by decide) rfl) (fun _ _ => rfl)) rfl) ?_
    obtain ⟨hl, Rk, GK, hR⟩ := hG ds (.inr rfl)
    by_cases hv : isInst "tuple" v = true
    · obtain ⟨vs, rfl⟩ := is_tup hv
      by_cases hn : vs.length = ds.length
      · refine j_ifF (TJ.of (t_w (w_or (t_not (t_val (e_isi rfl C.b_isinstance rfl C.b_tuple rfl (e_var (i := 0) rfl (.inr (.inl rfl)) rfl) (fun _ _ => rfl) (kit_tuple _) (fun _ => rfl) (by decide) rfl) (fun _ _ => rfl))) fun _ => w_or1 (t_cmp (c_neI (e_len rfl C.b_len (e_var (i := 0) rfl (.inr (.inl rfl)) rfl).qt (fun _ _ => rfl)) (e_len rfl C.b_len (e_var (i := 1) rfl (.inr (.inl rfl)) rfl).ql (fun _ _ => rfl))) (nomark _)))) ?_) ?_
        · rw [hn, decide_eq_true rfl]; rfl
        · refine j_ret (e_all (bs := (vs.zip ds).map fun p => lawIs p.1 p.2) rfl C.b_all (FJ.q (f_lc (own := [("at", 2)]) (enc := eI) (encB := eB) (xs := rng 0 (ds.length : Int)) (f := fun i => (atI (vs.zip ds) i).bind fun p => some (some (lawIs p.1 p.2)))
            (IW.x (i_range1 rfl C.b_range (e_len rfl C.b_len (e_var (i := 1) rfl (.inr (.inl rfl)) rfl).ql (fun _ _ => rfl)) (fun _ _ => rfl) ⟨by decide, by decide, by omega, by omega⟩))
            (fun i hi => cb_bind fun p hp => cb0T (g_name (i := 2) ⟨nd__law_is, rfl, .inl rfl, .inr rfl⟩) (by decide)
              (e_callK GK (Nat.le_refl _) rfl (a_cons (e_ix (e_var (i := 0) rfl (.inr (.inl rfl)) rfl).qt (e_var (i := 2) rfl (.inl rfl) rfl) (atI_zip (mem_rng.mp hi).1 hp).1 (fun _ _ => rfl)) (a_cons (e_ix (e_var (i := 1) rfl (.inr (.inl rfl)) rfl).ql (e_var (i := 2) rfl (.inl rfl) rfl) (atI_zip (mem_rng.mp hi).1 hp).2 (fun _ _ => rfl)) a_nil (fun _ _ => rfl)) (fun _ _ => rfl))
                (hR _ (mem_at (atI_zip (mem_rng.mp hi).1 hp).2) _) rfl (fun _ _ => rfl) (fun _ => rfl) (by decide)))
            (compM_at (by rw [List.length_zip, hn, Nat.min_self])) nd__law_is rfl (by decide) (fun _ _ => rfl))) (fun _ _ => rfl)) ?_
          rw [lawAll_zip hn]
          show _ = PyData.bool _
          rw [lawIs]
      · refine j_ifT (TJ.of (t_w (w_or (t_not (t_val (e_isi rfl C.b_isinstance rfl C.b_tuple rfl (e_var (i := 0) rfl (.inr (.inl rfl)) rfl) (fun _ _ => rfl) (kit_tuple _) (fun _ => rfl) (by decide) rfl) (fun _ _ => rfl))) fun _ => w_or1 (t_cmp (c_neI (e_len rfl C.b_len (e_var (i := 0) rfl (.inr (.inl rfl)) rfl).qt (fun _ _ => rfl)) (e_len rfl C.b_len (e_var (i := 1) rfl (.inr (.inl rfl)) rfl).ql (fun _ _ => rfl))) (nomark _)))) ?_) ?_
        · rw [decide_eq_false (by omega)]; simp
        · exact j_ret e_bl (by rw [lawIs, lawAll_len hn]; rfl)
    · have hv' : isInst "tuple" v = false := Bool.eq_false_iff.mpr hv
      refine j_ifT (TJ.of (t_w (w_or (k := true) (l := true) (TJ.of (t_not (t_val (e_isi rfl C.b_isinstance rfl C.b_tuple rfl (e_var (i := 0) rfl (.inr (.inl rfl)) rfl) (fun _ _ => rfl) (kit_tuple _) (fun _ => rfl) (by decide) rfl) (fun _ _ => rfl))) (by rw [hv']; rfl)) fun z => by cases z)) rfl) ?_
      exact j_ret e_bl (by rw [(no_tup hv').2]; rfl)
  | dict x => exact absurd rfl (hd x)
theorem okD_seq {k : Nat} {d : PyData} {ds : List PyData} (h : okD k d = true) (e : d = .tuple ds ∨ d = .list ds) : ∃ k', k = k' + 1 ∧ ds.length ≤ 8388608 ∧ ∀ x ∈ ds, okD k' x = true := by
  cases k with
  | zero => rcases e with rfl | rfl <;> exact absurd h (by simp [okD])
  | succ k =>
    refine ⟨k, rfl, ?_⟩
    rcases e with rfl | rfl <;> (simp only [okD, Bool.and_eq_true, decide_eq_true_eq, List.all_eq_true] at h; exact h)
theorem okD_dict {k : Nat} {x : List (PyData × PyData)} : okD k (.dict x) ≠ true := by cases k <;> simp [okD]
theorem okk__law_is (C : Gl K mg base tabs) (G0 : Known P w K mg base tabs 1 "_law_is_integer" 1 R__law_is_integer) : ∀ k, Known P w K mg base tabs (k + 2) "_law_is" 2 (RLk k)
  | k => by
    refine known_of (k := k + 1) C.d__law_is sc__law_is fun cdv B F0 ds r _ hr => ?_
    obtain ⟨v, d, rfl, hk, rfl⟩ := hr
    refine (j__law_is C G0 cdv B F0 (k + 1) (Nat.le_add_left 1 k) v d (fun ds e => ?_) fun x e => okD_dict (e ▸ hk)).body rfl
    obtain ⟨k', rfl, h1, h2⟩ := okD_seq hk e
    exact ⟨h1, RLk k', okk__law_is C G0 k', fun e he v => ⟨v, e, rfl, h2 e he, rfl⟩⟩
theorem ok__law_is (C : Gl K mg base tabs) : Known P w K mg base tabs 8 "_law_is" 2 R__law_is := by
  refine known_of (k := 7) C.d__law_is sc__law_is fun cdv B F0 ds r _ hr => ?_
  obtain ⟨v, d, y, rfl, hy, rfl⟩ := hr
  unfold m__law_is at hy
  split at hy
  · rename_i hk
    cases hy
    refine (j__law_is C (ok__law_is_integer C) cdv B F0 7 (by decide) v d (fun ds e => ?_) fun x e => okD_dict (e ▸ hk)).body rfl
    obtain ⟨k', ek, h1, h2⟩ := okD_seq hk e
    obtain rfl : k' = 5 := by omega
    exact ⟨h1, RLk 5, okk__law_is C (ok__law_is_integer C) 5, fun e he v => ⟨v, e, rfl, h2 e he, rfl⟩⟩
  · cases hy

def R__law_bent (ds : List PyData) (r : PyData) : Prop := ∃ (row1 : (List Int)), ∃ (draws2 : (List Int)), ∃ (most3 : Int), ∃ y, ds = [(eT eI) row1, (eL eI) draws2, eI most3] ∧ m__law_bent row1 draws2 most3 = some y ∧ r = (eT eI) y
theorem j__law_bent (C : Gl K mg base tabs) (cdv : Value) (B F0 : Hp) (row1 : (List Int)) (draws2 : (List Int)) (most3 : Int) : J (Stat.of P w K mg base ["row", "draws", "most", "way", "at", "odd"] (defScope s__law_bent) 0 tabs cdv B F0 "_law_bent") [.sh ((eT eI) row1), .sh ((eL eI) draws2), .sh (eI most3), .un, .un, .un] (defBody s__law_bent) (pT (eT eI)) (m__law_bent row1 draws2 most3) := by
  unfold m__law_bent
  refine j_bind fun t4 ht4 => ?_
  refine j_bind fun way5 hway5 => ?_
  refine j_set (i := 3) ⟨nd__law_bent, rfl, .inl rfl, .inr rfl⟩ (EJ.of (e_mod (e_int1 rfl C.b_int (e_ixT (enc := eI) (xs := draws2) (EJ.ql (e_var (i := 1) rfl (.inl rfl) rfl)) e_int ht4 (fun _ _ => rfl)) (fun _ _ => rfl)) e_int (by decide)) (congrArg eI (Option.some.inj hway5))) (fun _ _ => rfl) ?_
  refine j_bind fun t6 ht6 => ?_
  refine j_bind fun at8 hat8 => ?_
  refine j_set (i := 4) ⟨nd__law_bent, rfl, .inl rfl, .inr rfl⟩ (e_modO (e_int1 rfl C.b_int (e_ixT (enc := eI) (xs := draws2) (EJ.ql (e_var (i := 1) rfl (.inl rfl) rfl)) e_int ht6 (fun _ _ => rfl)) (fun _ _ => rfl)) (e_add (e_lenT (enc := eI) (xs := row1) rfl C.b_len (EJ.qt (e_var (i := 0) rfl (.inl rfl) rfl)) (fun _ _ => rfl)) e_int) hat8) (fun _ _ => rfl) ?_
  refine j_bind fun t9 ht9 => ?_
  refine j_bind fun t10 ht10 => ?_
  refine j_bind fun t11 ht11 => ?_
  refine j_bind fun odd13 hodd13 => ?_
  refine j_set (i := 5) ⟨nd__law_bent, rfl, .inl rfl, .inr rfl⟩ (e_ixT (enc := eI) (xs := [(t10 - (1 : Int)), (100000000000000000000 : Int), ((0 : Int) - (1 : Int))]) (EJ.qt (EJ.of (d' := ((eT eI) [(t10 - (1 : Int)), (100000000000000000000 : Int), ((0 : Int) - (1 : Int))])) (e_tup (a_cons (e_sub (e_modO (e_int1 rfl C.b_int (e_ixT (enc := eI) (xs := draws2) (EJ.ql (e_var (i := 1) rfl (.inl rfl) rfl)) e_int ht9 (fun _ _ => rfl)) (fun _ _ => rfl)) (e_add (e_var (i := 2) rfl (.inl rfl) rfl) e_int) ht10) e_int) (a_cons (EJ.of (d' := .int 100000000000000000000) (e_pow e_int e_int ⟨by decide, by decide, by decide⟩) rfl) (a_cons (e_sub e_int e_int) a_nil (fun _ _ => rfl)) (fun _ _ => rfl)) (fun _ _ => rfl)) (len_le (n := 3) rfl (by decide))) rfl)) (e_fdiv (e_mod (e_fdiv (e_int1 rfl C.b_int (e_ixT (enc := eI) (xs := draws2) (EJ.ql (e_var (i := 1) rfl (.inl rfl) rfl)) e_int ht11 (fun _ _ => rfl)) (fun _ _ => rfl)) e_int ⟨by decide, by decide⟩) e_int (by decide)) e_int ⟨by decide, by decide⟩) hodd13 (fun _ _ => rfl)) (fun _ _ => rfl) ?_
  refine j_ifR (t_cmp (c_eqI (e_var (i := 3) rfl (.inl rfl) rfl) e_int) (nomark _)) (fun hc => ?_) (fun hc => ?_)
  · refine j_bind fun t14 ht14 => ?_
    exact j_ret (e_catO (enc := eI) (e_slTT (enc := eI) (e_var (i := 0) rfl (.inl rfl) rfl) o_none (o_some (e_var (i := 4) rfl (.inl rfl) rfl))) (e_slTT (enc := eI) (e_var (i := 0) rfl (.inl rfl) rfl) (o_some (e_add (e_var (i := 4) rfl (.inl rfl) rfl) e_int)) o_none) ht14) rfl
  · refine j_ifR (t_cmp (c_eqI (e_var (i := 3) rfl (.inl rfl) rfl) e_int) (nomark _)) (fun hc => ?_) (fun hc => ?_)
    · refine j_bind fun t15 ht15 => ?_
      refine j_bind fun t16 ht16 => ?_
      exact j_ret (e_catO (enc := eI) (e_catO (enc := eI) (e_slTT (enc := eI) (e_var (i := 0) rfl (.inl rfl) rfl) o_none (o_some (e_var (i := 4) rfl (.inl rfl) rfl))) (EJ.of (d' := ((eT eI) [odd13])) (e_tup (a_cons (e_var (i := 5) rfl (.inl rfl) rfl) a_nil (fun _ _ => rfl)) (len_le (n := 1) rfl (by decide))) rfl) ht15) (e_slTT (enc := eI) (e_var (i := 0) rfl (.inl rfl) rfl) (o_some (e_var (i := 4) rfl (.inl rfl) rfl)) o_none) ht16) rfl
    · refine j_ifR (t_cmp (c_lt (e_var (i := 3) rfl (.inl rfl) rfl) e_int) (nomark _)) (fun hc => ?_) (fun hc => ?_)
      · refine j_bind fun t17 ht17 => ?_
        refine j_bind fun t18 ht18 => ?_
        exact j_ret (e_catO (enc := eI) (e_catO (enc := eI) (e_slTT (enc := eI) (e_var (i := 0) rfl (.inl rfl) rfl) o_none (o_some (e_var (i := 4) rfl (.inl rfl) rfl))) (EJ.of (d' := ((eT eI) [odd13])) (e_tup (a_cons (e_var (i := 5) rfl (.inl rfl) rfl) a_nil (fun _ _ => rfl)) (len_le (n := 1) rfl (by decide))) rfl) ht17) (e_slTT (enc := eI) (e_var (i := 0) rfl (.inl rfl) rfl) (o_some (e_add (e_var (i := 4) rfl (.inl rfl) rfl) e_int)) o_none) ht18) rfl
      · refine j_bind fun t20 ht20 => ?_
        exact j_ret (EO.elim (eo_if (encB := (eT eI)) (t_cmp (c_eqI (e_var (i := 3) rfl (.inl rfl) rfl) e_int) (nomark _)) (fun _ => (eo_some (encB := (eT eI)) (e_revTT (enc := eI) (e_var (i := 0) rfl (.inl rfl) rfl)))) (fun _ => (eo_bind fun t19 ht19 => (eo_some (encB := (eT eI)) (e_catO (enc := eI) (e_slTT (enc := eI) (e_var (i := 0) rfl (.inl rfl) rfl) o_none (o_some (e_var (i := 4) rfl (.inl rfl) rfl))) (e_slTT (enc := eI) (e_var (i := 0) rfl (.inl rfl) rfl) (o_some (e_max2 rfl C.b_max e_int (e_sub (e_var (i := 4) rfl (.inl rfl) rfl) e_int) (fun _ _ => rfl) (fun _ _ => rfl) (fun _ => rfl))) o_none) ht19))))) ht20) rfl
theorem ok__law_bent (C : Gl K mg base tabs) : Known P w K mg base tabs 1 "_law_bent" 3 R__law_bent := known_of (k := 0) C.d__law_bent sc__law_bent fun cdv B F0 ds r _ hr => by
  obtain ⟨row1, draws2, most3, y, rfl, hy, rfl⟩ := hr
  exact (j__law_bent C cdv B F0 row1 draws2 most3).body hy
def R__law_together (ds : List PyData) (r : PyData) : Prop := ∃ (n1 : Int), ∃ (roads2 : (List (Int × Int))), ∃ y, ds = [eI n1, (eL (eP2 eI eI)) roads2] ∧ m__law_together n1 roads2 = some y ∧ r = eB y
theorem j__law_together (C : Gl K mg base tabs) (cdv : Value) (B F0 : Hp) (n1 : Int) (roads2 : (List (Int × Int))) : J (Stat.of P w K mg base ["n", "roads", "marks", "a", "b", "low", "high", "at", "mark"] (defScope s__law_together) 0 tabs cdv B F0 "_law_together") [.sh (eI n1), .sh ((eL (eP2 eI eI)) roads2), .un, .un, .un, .un, .un, .un, .un] (defBody s__law_together) (pT eB) (m__law_together n1 roads2) := by
  unfold m__law_together
  refine j_bind fun r3 hr3 => ?_
  refine j_bind fun marks5 hmarks5 => ?_
  refine j_setLc (i := 2) (own := [("at", 7)]) (encA := eI) (encB := eI) (xs := r3) (f := (fun (x4 : Int) => some (some x4))) (ys := marks5) ⟨nd__law_together, rfl, .inl rfl, .inr rfl⟩ rfl (IW.x (i_range1O rfl C.b_range (e_var (i := 0) rfl (.inl rfl) rfl) (fun _ _ => rfl) hr3)) (fun x4 _ => cb0T (y := x4) (g_name (i := 7) ⟨nd__law_together, rfl, .inl rfl, .inr rfl⟩) (by decide) (e_var (i := 7) rfl (.inl rfl) rfl)) ((compM_map _).trans hmarks5) rfl (by decide) (fun _ _ => rfl) rfl rfl rfl ?_
  refine j_share (j := 2) rfl ?_
  refine j_to (γ2 := [.sh (eI n1), .sh ((eL (eP2 eI eI)) roads2), .sh ((eL eI) marks5), .un, .un, .un, .un, .un, .un]) rfl ?_
  refine j_for (enc := (eP2 eI eI)) (xs := roads2) (γ0 := fun (s6 : ((List Int))) => [.un, .un, .sh ((eL eI) s6), .un, .un, .un, .un, .un, .un]) (t0 := (marks5)) (i_list (e_var (i := 1) rfl (.inl rfl) rfl)) (⟨rfl, trivial⟩) (fun s6 x7 hx7 => ⟨_, _, (g_tup (gs_cons (g_name (i := 3) ⟨nd__law_together, rfl, .inl rfl, .inr rfl⟩) (gs_cons (g_name (i := 4) ⟨nd__law_together, rfl, .inl rfl, .inr rfl⟩) gs_nil (fun _ _ => rfl)) (fun _ _ => rfl)) (fun _ => rfl) (fun _ => rfl)), ?_⟩) (fun s6 => ?_) (fun _ _ => rfl)
  · refine j_bind fun t8 ht8 => ?_
    refine j_bind fun t9 ht9 => ?_
    refine j_bind fun low10 hlow10 => ?_
    refine j_set (i := 5) ⟨nd__law_together, rfl, .inr rfl, .inl rfl⟩ (EJ.of (e_min2 rfl C.b_min (e_ixT (enc := eI) (xs := s6) (EJ.ql (e_var (i := 2) rfl (.inl rfl) rfl)) (e_var (i := 3) rfl (.inl rfl) rfl) ht8 (fun _ _ => rfl)) (e_ixT (enc := eI) (xs := s6) (EJ.ql (e_var (i := 2) rfl (.inl rfl) rfl)) (e_var (i := 4) rfl (.inl rfl) rfl) ht9 (fun _ _ => rfl)) (fun _ _ => rfl) (fun _ _ => rfl) (fun _ => rfl)) (congrArg eI (Option.some.inj hlow10))) (fun _ _ => rfl) ?_
    refine j_bind fun t11 ht11 => ?_
    refine j_bind fun t12 ht12 => ?_
    refine j_bind fun high13 hhigh13 => ?_
    refine j_set (i := 6) ⟨nd__law_together, rfl, .inr rfl, .inl rfl⟩ (EJ.of (e_max2 rfl C.b_max (e_ixT (enc := eI) (xs := s6) (EJ.ql (e_var (i := 2) rfl (.inl rfl) rfl)) (e_var (i := 3) rfl (.inl rfl) rfl) ht11 (fun _ _ => rfl)) (e_ixT (enc := eI) (xs := s6) (EJ.ql (e_var (i := 2) rfl (.inl rfl) rfl)) (e_var (i := 4) rfl (.inl rfl) rfl) ht12 (fun _ _ => rfl)) (fun _ _ => rfl) (fun _ _ => rfl) (fun _ => rfl)) (congrArg eI (Option.some.inj hhigh13))) (fun _ _ => rfl) ?_
    refine j_bind fun marks15 hmarks15 => ?_
    refine j_setLc (i := 2) (own := [("mark", 8)]) (encA := eI) (encB := eI) (xs := s6) (f := (fun (x14 : Int) => some (some (if (decide (x14 = high13)) = true then low10 else x14)))) (ys := marks15) ⟨nd__law_together, rfl, .inl rfl, .inr rfl⟩ rfl (IW.x (i_list (e_var (i := 2) rfl (.inl rfl) rfl))) (fun x14 _ => cb0T (y := (if (decide (x14 = high13)) = true then low10 else x14)) (g_name (i := 8) ⟨nd__law_together, rfl, .inl rfl, .inr rfl⟩) (by decide) (e_if (enc := eI) (t_cmp (c_eqI (e_var (i := 8) rfl (.inl rfl) rfl) (e_var (i := 6) rfl (.inr (.inl rfl)) rfl)) (nomark _)) (fun _ => (e_var (i := 5) rfl (.inr (.inl rfl)) rfl)) (fun _ => (e_var (i := 8) rfl (.inl rfl) rfl)))) ((compM_map _).trans hmarks15) rfl (by decide) (fun _ _ => rfl) rfl rfl rfl ?_
    refine j_share (j := 2) rfl ?_
    refine j_to (γ2 := [.un, .un, .sh ((eL eI) marks15), .sh (eI x7.1), .sh (eI x7.2), .sh (eI low10), .sh (eI high13), .un, .un]) rfl ?_
    exact j_nil (⟨rfl, trivial⟩)
  · refine j_bind fun t16 ht16 => ?_
    exact j_ret (e_cmp (c_eqI (e_maxL rfl C.b_max (EJ.ql (e_var (i := 2) rfl (.inl rfl) rfl)) ht16 (fun _ _ => rfl)) e_int) (nomark _)) rfl
theorem ok__law_together (C : Gl K mg base tabs) : Known P w K mg base tabs 1 "_law_together" 2 R__law_together := known_of (k := 0) C.d__law_together sc__law_together fun cdv B F0 ds r _ hr => by
  obtain ⟨n1, roads2, y, rfl, hy, rfl⟩ := hr
  exact (j__law_together C cdv B F0 n1 roads2).body hy
def R__law_hold (ds : List PyData) (r : PyData) : Prop := ∃ (n1 : Int), ∃ (roads2 : (List (Int × Int))), ∃ (k3 : Int), ∃ (turns4 : (List Int)), ∃ y, ds = [eI n1, (eT (eP2 eI eI)) roads2, eI k3, (eT eI) turns4] ∧ m__law_hold n1 roads2 k3 turns4 = some y ∧ r = eB y
theorem j__law_hold (C : Gl K mg base tabs) (cdv : Value) (B F0 : Hp) (n1 : Int) (roads2 : (List (Int × Int))) (k3 : Int) (turns4 : (List Int)) : J (Stat.of P w K mg base ["n", "roads", "k", "turns", "day", "at"] (defScope s__law_hold) 1 tabs cdv B F0 "_law_hold") [.sh (eI n1), .sh ((eT (eP2 eI eI)) roads2), .sh (eI k3), .sh ((eT eI) turns4), .un, .un] (defBody s__law_hold) (pT eB) (m__law_hold n1 roads2 k3 turns4) := by
  unfold m__law_hold
  refine j_ifR (t_w (w_or (t_cmp (c_neI (e_lenT (enc := eI) (xs := turns4) rfl C.b_len (EJ.qt (e_var (i := 3) rfl (.inr (.inl rfl)) rfl)) (fun _ _ => rfl)) (e_lenT (enc := (eP2 eI eI)) (xs := roads2) rfl C.b_len (EJ.qt (e_var (i := 1) rfl (.inr (.inl rfl)) rfl)) (fun _ _ => rfl))) (nomark _)) fun _ => (w_or1 (t_cmp (c_gt (e_lenT (enc := eI) (xs := (List.map (fun (x5 : Int) => x5) (List.filter (fun (x5 : Int) => ((decide (x5 < (0 : Int))) || (decide (k3 ≤ x5)))) turns4))) rfl C.b_len (FJ.q (f_lc (own := [("day", 4)]) (enc := eI) (encB := eI) (xs := turns4) (f := (fun (x5 : Int) => some (if ((decide (x5 < (0 : Int))) || (decide (k3 ≤ x5))) = true then some x5 else none))) (IW.x (i_tup (e_var (i := 3) rfl (.inr (.inl rfl)) rfl))) (fun x5 _ => cb1T (k := ((decide (x5 < (0 : Int))) || (decide (k3 ≤ x5)))) (y := x5) (g_name (i := 4) ⟨nd__law_hold, rfl, .inl rfl, .inr rfl⟩) (by decide) (t_w (w_or (t_cmp (c_lt (e_var (i := 4) rfl (.inl rfl) rfl) e_int) (nomark _)) fun _ => (w_or1 (t_cmp (c_ge (e_var (i := 4) rfl (.inl rfl) rfl) (e_var (i := 2) rfl (.inr (.inl rfl)) rfl)) (nomark _))))) (fun _ => (e_var (i := 4) rfl (.inl rfl) rfl))) (compM_tot _) nd__law_hold rfl (by decide) (fun _ _ => rfl))) (fun _ _ => rfl)) e_int) (nomark _))))) (fun hc => ?_) (fun hc => ?_)
  · exact j_ret e_bl rfl
  · refine j_bind fun r6 hr6 => ?_
    refine j_to (γ2 := [.sh (eI n1), .sh ((eT (eP2 eI eI)) roads2), .sh (eI k3), .sh ((eT eI) turns4), .un, .un]) rfl ?_
    refine j_forR (enc := eI) (xs := r6) (encR := eB) (γ0 := fun (s7 : Unit) => [.sh (eI n1), .sh ((eT (eP2 eI eI)) roads2), .un, .sh ((eT eI) turns4), .un, .un]) (t0 := ()) (i_range1O rfl C.b_range (e_var (i := 2) rfl (.inr (.inl rfl)) rfl) (fun _ _ => rfl) hr6) (⟨rfl, ⟨rfl, ⟨rfl, trivial⟩⟩⟩) (fun s7 x8 hx8 => ⟨_, _, (g_name (i := 4) ⟨nd__law_hold, rfl, .inr rfl, .inl rfl⟩), ?_⟩) (fun _ => rfl) (fun s7 => ?_) (fun _ _ => rfl)
    · refine j_bind fun r9 hr9 => ?_
      refine j_bind fun l13 hl13 => ?_
      refine j_bind fun t14 ht14 => ?_
      refine j_ifR (t_not (t_val (EJ.of (d' := eB t14) (e_callK (ok__law_together C) (Nat.le_of_ble_eq_true rfl) rfl (a_cons (e_var (i := 0) rfl (.inl rfl) rfl) (a_cons (FJ.ej (f_lc (own := [("at", 5)]) (enc := eI) (encB := (eP2 eI eI)) (xs := r9) (f := (fun (x10 : Int) => ((atI turns4 x10).bind fun t11 => (if (!(decide (t11 = x8))) = true then ((atI roads2 x10).bind fun t12 => (some t12)).bind (fun y => some (some y)) else some none)))) (IW.x (i_range1O rfl C.b_range (e_lenT (enc := (eP2 eI eI)) (xs := roads2) rfl C.b_len (EJ.qt (e_var (i := 1) rfl (.inr (.inl rfl)) rfl)) (fun _ _ => rfl)) (fun _ _ => rfl) hr9)) (fun x10 _ => (cb_bind fun t11 ht11 => (cb1 (k := (!(decide (t11 = x8)))) (o := ((atI roads2 x10).bind fun t12 => (some t12))) (g_name (i := 5) ⟨nd__law_hold, rfl, .inl rfl, .inr rfl⟩) (by decide) (t_cmp (c_neI (e_ixT (enc := eI) (xs := turns4) (EJ.qt (e_var (i := 3) rfl (.inr (.inl rfl)) rfl)) (e_var (i := 5) rfl (.inl rfl) rfl) ht11 (fun _ _ => rfl)) (e_var (i := 4) rfl (.inr (.inl rfl)) rfl)) (nomark _)) (fun _ => (eo_bind fun t12 ht12 => (eo_some (encB := (eP2 eI eI)) (e_ixT (enc := (eP2 eI eI)) (xs := roads2) (EJ.qt (e_var (i := 1) rfl (.inr (.inl rfl)) rfl)) (e_var (i := 5) rfl (.inl rfl) rfl) ht12 (fun _ _ => rfl)))))))) hl13 nd__law_hold rfl (by decide) (fun _ _ => rfl))) a_nil (fun _ _ => rfl)) (fun _ _ => rfl)) ⟨n1, l13, t14, rfl, ht14, rfl⟩ rfl (fun _ _ => rfl) (fun _ => rfl) (by decide)) rfl) (fun _ _ => rfl))) (fun hc => ?_) (fun hc => ?_)
      · exact j_ret e_bl rfl
      · refine j_to (γ2 := [.sh (eI n1), .sh ((eT (eP2 eI eI)) roads2), .un, .sh ((eT eI) turns4), .sh (eI x8), .un]) rfl ?_
        exact j_nil (⟨rfl, ⟨rfl, ⟨rfl, trivial⟩⟩⟩)
    · exact j_ret e_bl rfl
theorem ok__law_hold (C : Gl K mg base tabs) : Known P w K mg base tabs 2 "_law_hold" 4 R__law_hold := known_of (k := 1) C.d__law_hold sc__law_hold fun cdv B F0 ds r _ hr => by
  obtain ⟨n1, roads2, k3, turns4, y, rfl, hy, rfl⟩ := hr
  exact (j__law_hold C cdv B F0 n1 roads2 k3 turns4).body hy
def R__law_hold_v2 (ds : List PyData) (r : PyData) : Prop := ∃ (n1 : Int), ∃ (roads2 : (List (Int × Int))), ∃ (k3 : Int), ∃ (turns4 : (List Int)), ∃ y, ds = [eI n1, (eT (eP2 eI eI)) roads2, eI k3, (eL eI) turns4] ∧ m__law_hold_v2 n1 roads2 k3 turns4 = some y ∧ r = eB y
theorem j__law_hold_v2 (C : Gl K mg base tabs) (cdv : Value) (B F0 : Hp) (n1 : Int) (roads2 : (List (Int × Int))) (k3 : Int) (turns4 : (List Int)) : J (Stat.of P w K mg base ["n", "roads", "k", "turns", "day", "at"] (defScope s__law_hold) 1 tabs cdv B F0 "_law_hold") [.sh (eI n1), .sh ((eT (eP2 eI eI)) roads2), .sh (eI k3), .sh ((eL eI) turns4), .un, .un] (defBody s__law_hold) (pT eB) (m__law_hold_v2 n1 roads2 k3 turns4) := by
  unfold m__law_hold_v2
  refine j_ifR (t_w (w_or (t_cmp (c_neI (e_lenT (enc := eI) (xs := turns4) rfl C.b_len (EJ.ql (e_var (i := 3) rfl (.inr (.inl rfl)) rfl)) (fun _ _ => rfl)) (e_lenT (enc := (eP2 eI eI)) (xs := roads2) rfl C.b_len (EJ.qt (e_var (i := 1) rfl (.inr (.inl rfl)) rfl)) (fun _ _ => rfl))) (nomark _)) fun _ => (w_or1 (t_cmp (c_gt (e_lenT (enc := eI) (xs := (List.map (fun (x5 : Int) => x5) (List.filter (fun (x5 : Int) => ((decide (x5 < (0 : Int))) || (decide (k3 ≤ x5)))) turns4))) rfl C.b_len (FJ.q (f_lc (own := [("day", 4)]) (enc := eI) (encB := eI) (xs := turns4) (f := (fun (x5 : Int) => some (if ((decide (x5 < (0 : Int))) || (decide (k3 ≤ x5))) = true then some x5 else none))) (IW.x (i_list (e_var (i := 3) rfl (.inr (.inl rfl)) rfl))) (fun x5 _ => cb1T (k := ((decide (x5 < (0 : Int))) || (decide (k3 ≤ x5)))) (y := x5) (g_name (i := 4) ⟨nd__law_hold, rfl, .inl rfl, .inr rfl⟩) (by decide) (t_w (w_or (t_cmp (c_lt (e_var (i := 4) rfl (.inl rfl) rfl) e_int) (nomark _)) fun _ => (w_or1 (t_cmp (c_ge (e_var (i := 4) rfl (.inl rfl) rfl) (e_var (i := 2) rfl (.inr (.inl rfl)) rfl)) (nomark _))))) (fun _ => (e_var (i := 4) rfl (.inl rfl) rfl))) (compM_tot _) nd__law_hold rfl (by decide) (fun _ _ => rfl))) (fun _ _ => rfl)) e_int) (nomark _))))) (fun hc => ?_) (fun hc => ?_)
  · exact j_ret e_bl rfl
  · refine j_bind fun r6 hr6 => ?_
    refine j_to (γ2 := [.sh (eI n1), .sh ((eT (eP2 eI eI)) roads2), .sh (eI k3), .sh ((eL eI) turns4), .un, .un]) rfl ?_
    refine j_forR (enc := eI) (xs := r6) (encR := eB) (γ0 := fun (s7 : Unit) => [.sh (eI n1), .sh ((eT (eP2 eI eI)) roads2), .un, .sh ((eL eI) turns4), .un, .un]) (t0 := ()) (i_range1O rfl C.b_range (e_var (i := 2) rfl (.inr (.inl rfl)) rfl) (fun _ _ => rfl) hr6) (⟨rfl, ⟨rfl, ⟨rfl, trivial⟩⟩⟩) (fun s7 x8 hx8 => ⟨_, _, (g_name (i := 4) ⟨nd__law_hold, rfl, .inr rfl, .inl rfl⟩), ?_⟩) (fun _ => rfl) (fun s7 => ?_) (fun _ _ => rfl)
    · refine j_bind fun r9 hr9 => ?_
      refine j_bind fun l13 hl13 => ?_
      refine j_bind fun t14 ht14 => ?_
      refine j_ifR (t_not (t_val (EJ.of (d' := eB t14) (e_callK (ok__law_together C) (Nat.le_of_ble_eq_true rfl) rfl (a_cons (e_var (i := 0) rfl (.inl rfl) rfl) (a_cons (FJ.ej (f_lc (own := [("at", 5)]) (enc := eI) (encB := (eP2 eI eI)) (xs := r9) (f := (fun (x10 : Int) => ((atI turns4 x10).bind fun t11 => (if (!(decide (t11 = x8))) = true then ((atI roads2 x10).bind fun t12 => (some t12)).bind (fun y => some (some y)) else some none)))) (IW.x (i_range1O rfl C.b_range (e_lenT (enc := (eP2 eI eI)) (xs := roads2) rfl C.b_len (EJ.qt (e_var (i := 1) rfl (.inr (.inl rfl)) rfl)) (fun _ _ => rfl)) (fun _ _ => rfl) hr9)) (fun x10 _ => (cb_bind fun t11 ht11 => (cb1 (k := (!(decide (t11 = x8)))) (o := ((atI roads2 x10).bind fun t12 => (some t12))) (g_name (i := 5) ⟨nd__law_hold, rfl, .inl rfl, .inr rfl⟩) (by decide) (t_cmp (c_neI (e_ixT (enc := eI) (xs := turns4) (EJ.ql (e_var (i := 3) rfl (.inr (.inl rfl)) rfl)) (e_var (i := 5) rfl (.inl rfl) rfl) ht11 (fun _ _ => rfl)) (e_var (i := 4) rfl (.inr (.inl rfl)) rfl)) (nomark _)) (fun _ => (eo_bind fun t12 ht12 => (eo_some (encB := (eP2 eI eI)) (e_ixT (enc := (eP2 eI eI)) (xs := roads2) (EJ.qt (e_var (i := 1) rfl (.inr (.inl rfl)) rfl)) (e_var (i := 5) rfl (.inl rfl) rfl) ht12 (fun _ _ => rfl)))))))) hl13 nd__law_hold rfl (by decide) (fun _ _ => rfl))) a_nil (fun _ _ => rfl)) (fun _ _ => rfl)) ⟨n1, l13, t14, rfl, ht14, rfl⟩ rfl (fun _ _ => rfl) (fun _ => rfl) (by decide)) rfl) (fun _ _ => rfl))) (fun hc => ?_) (fun hc => ?_)
      · exact j_ret e_bl rfl
      · refine j_to (γ2 := [.sh (eI n1), .sh ((eT (eP2 eI eI)) roads2), .un, .sh ((eL eI) turns4), .sh (eI x8), .un]) rfl ?_
        exact j_nil (⟨rfl, ⟨rfl, ⟨rfl, trivial⟩⟩⟩)
    · exact j_ret e_bl rfl
theorem ok__law_hold_v2 (C : Gl K mg base tabs) : Known P w K mg base tabs 2 "_law_hold" 4 R__law_hold_v2 := known_of (k := 1) C.d__law_hold sc__law_hold fun cdv B F0 ds r _ hr => by
  obtain ⟨n1, roads2, k3, turns4, y, rfl, hy, rfl⟩ := hr
  exact (j__law_hold_v2 C cdv B F0 n1 roads2 k3 turns4).body hy
def R__law_least_turns (ds : List PyData) (r : PyData) : Prop := ∃ (n1 : Int), ∃ (roads2 : (List (Int × Int))), ∃ (k3 : Int), ∃ y, ds = [eI n1, (eT (eP2 eI eI)) roads2, eI k3] ∧ m__law_least_turns n1 roads2 k3 = some y ∧ r = (eO (eT eI)) y
theorem j__law_least_turns (C : Gl K mg base tabs) (cdv : Value) (B F0 : Hp) (n1 : Int) (roads2 : (List (Int × Int))) (k3 : Int) : J (Stat.of P w K mg base ["n", "roads", "k", "turns", "number", "rest", "at"] (defScope s__law_least_turns) 2 tabs cdv B F0 "_law_least_turns") [.sh (eI n1), .sh ((eT (eP2 eI eI)) roads2), .sh (eI k3), .un, .un, .un, .un] (defBody s__law_least_turns) (pT (eO (eT eI))) (m__law_least_turns n1 roads2 k3) := by
  unfold m__law_least_turns
  refine j_bind fun turns5 hturns5 => ?_
  refine j_setF (i := 3) ⟨nd__law_least_turns, rfl, .inl rfl, .inr rfl⟩ (f_repO (enc := eI) (f_lst (a_cons e_int a_nil (fun _ _ => rfl)) (len_le (n := 1) rfl (by decide))) (e_lenT (enc := (eP2 eI eI)) (xs := roads2) rfl C.b_len (EJ.qt (e_var (i := 1) rfl (.inl rfl) rfl)) (fun _ _ => rfl)) hturns5) (fun _ _ => rfl) ?_
  refine j_bind fun r6 hr6 => ?_
  refine j_to (γ2 := [.sh (eI n1), .sh ((eT (eP2 eI eI)) roads2), .sh (eI k3), .ow (.list (List.map eI turns5)), .un, .un, .un]) rfl ?_
  refine j_forR (enc := eI) (xs := r6) (encR := (eO (eT eI))) (γ0 := fun (s7 : ((List Int))) => [.sh (eI n1), .sh ((eT (eP2 eI eI)) roads2), .sh (eI k3), .ow (.list (List.map eI s7)), .un, .un, .un]) (t0 := (turns5)) (i_range1O rfl C.b_range e_int (fun _ _ => rfl) hr6) (⟨rfl, ⟨rfl, ⟨rfl, ⟨rfl, trivial⟩⟩⟩⟩) (fun s7 x8 hx8 => ⟨_, _, (g_name (i := 4) ⟨nd__law_least_turns, rfl, .inl rfl, .inr rfl⟩), ?_⟩) (fun _ => rfl) (fun s7 => ?_) (fun _ _ => rfl)
  · refine j_bind fun rest9 hrest9 => ?_
    refine j_set (i := 5) ⟨nd__law_least_turns, rfl, .inl rfl, .inr rfl⟩ (EJ.of (e_var (i := 4) rfl (.inl rfl) rfl) (congrArg eI (Option.some.inj hrest9))) (fun _ _ => rfl) ?_
    refine j_bind fun r10 hr10 => ?_
    refine j_to (γ2 := [.sh (eI n1), .sh ((eT (eP2 eI eI)) roads2), .sh (eI k3), .ow (.list (List.map eI s7)), .sh (eI x8), .sh (eI rest9), .un]) rfl ?_
    refine j_for (enc := eI) (xs := r10) (γ0 := fun (s11 : ((List Int) × Int)) => [.sh (eI n1), .sh ((eT (eP2 eI eI)) roads2), .sh (eI k3), .ow (.list (List.map eI s11.1)), .un, .sh (eI s11.2), .un]) (t0 := (s7, rest9)) (i_range1O rfl C.b_range (e_lenT (enc := (eP2 eI eI)) (xs := roads2) rfl C.b_len (EJ.qt (e_var (i := 1) rfl (.inl rfl) rfl)) (fun _ _ => rfl)) (fun _ _ => rfl) hr10) (⟨rfl, ⟨rfl, ⟨rfl, ⟨rfl, ⟨rfl, trivial⟩⟩⟩⟩⟩) (fun s11 x12 hx12 => ⟨_, _, (g_name (i := 6) ⟨nd__law_least_turns, rfl, .inl rfl, .inr rfl⟩), ?_⟩) (fun s11 => ?_) (fun _ _ => rfl)
    · refine j_bind fun t13 ht13 => ?_
      refine j_bind fun turns14 hturns14 => ?_
      refine j_setixO (j := 3) (enc := eI) (xs := s11.1) (zs := turns14) (v := t13) rfl (.inl rfl) rfl (e_modO (e_int1 rfl C.b_int (e_var (i := 5) rfl (.inl rfl) rfl) (fun _ _ => rfl)) (e_var (i := 2) rfl (.inl rfl) rfl) ht13) (e_sub (e_sub (e_lenT (enc := (eP2 eI eI)) (xs := roads2) rfl C.b_len (EJ.qt (e_var (i := 1) rfl (.inl rfl) rfl)) (fun _ _ => rfl)) e_int) (e_var (i := 6) rfl (.inl rfl) rfl)) hturns14 (by decide) (by decide) (fun _ _ => rfl) (fun _ => rfl) (fun _ => rfl) (fun _ => rfl) ?_
      refine j_bind fun rest16 hrest16 => ?_
      refine j_set (i := 5) ⟨nd__law_least_turns, rfl, .inl rfl, .inr rfl⟩ (e_fdivO (e_var (i := 5) rfl (.inl rfl) rfl) (e_var (i := 2) rfl (.inl rfl) rfl) hrest16) (fun _ _ => rfl) ?_
      refine j_to (γ2 := [.sh (eI n1), .sh ((eT (eP2 eI eI)) roads2), .sh (eI k3), .ow (.list (List.map eI turns14)), .un, .sh (eI rest16), .sh (eI x12)]) rfl ?_
      exact j_nil (⟨rfl, ⟨rfl, ⟨rfl, ⟨rfl, ⟨rfl, trivial⟩⟩⟩⟩⟩)
    · refine j_ifR (t_cmp (c_gt (e_var (i := 5) rfl (.inl rfl) rfl) e_int) (nomark _)) (fun hc => ?_) (fun hc => ?_)
      · exact j_ret (EJ.of (d' := (eO (eT eI)) none) e_non rfl) rfl
      · refine j_bind fun t17 ht17 => ?_
        refine j_ifR (t_bor (j := 3) rfl (t_val (EJ.of (d' := eB t17) (e_callK (ok__law_hold_v2 C) (Nat.le_of_ble_eq_true rfl) rfl (a_cons (e_var (i := 0) rfl (.inl rfl) rfl) (a_cons (e_var (i := 1) rfl (.inl rfl) rfl) (a_cons (e_var (i := 2) rfl (.inl rfl) rfl) (a_cons (e_var (i := 3) rfl (.inl rfl) rfl) a_nil (fun _ _ => rfl)) (fun _ _ => rfl)) (fun _ _ => rfl)) (fun _ _ => rfl)) ⟨n1, roads2, k3, s11.1, t17, rfl, ht17, rfl⟩ rfl (fun _ _ => rfl) (fun _ => rfl) (by decide)) rfl) (fun _ _ => rfl))) (fun hc => ?_) (fun hc => ?_)
        · exact j_ret (EJ.into (enc := (eT eI)) (e_tuple (k := .l) rfl C.b_tuple (q_own (i := 3) (ds := List.map eI s11.1) rfl (.inl rfl) rfl) (fun _ _ => rfl))) rfl
        · refine j_to (γ2 := [.sh (eI n1), .sh ((eT (eP2 eI eI)) roads2), .sh (eI k3), .ow (.list (List.map eI s11.1)), .un, .sh (eI s11.2), .un]) rfl ?_
          exact j_nil (⟨rfl, ⟨rfl, ⟨rfl, ⟨rfl, trivial⟩⟩⟩⟩)
  · exact j_ret (EJ.of (d' := (eO (eT eI)) none) e_non rfl) rfl
theorem ok__law_least_turns (C : Gl K mg base tabs) : Known P w K mg base tabs 3 "_law_least_turns" 3 R__law_least_turns := known_of (k := 2) C.d__law_least_turns sc__law_least_turns fun cdv B F0 ds r _ hr => by
  obtain ⟨n1, roads2, k3, y, rfl, hy, rfl⟩ := hr
  exact (j__law_least_turns C cdv B F0 n1 roads2 k3).body hy
def R__law_splittings (ds : List PyData) (r : PyData) : Prop := ∃ (n1 : Int), ∃ y, ds = [eI n1] ∧ m__law_splittings n1 = some y ∧ r = (eL (eT eI)) y
theorem j__law_splittings (C : Gl K mg base tabs) (cdv : Value) (B F0 : Hp) (n1 : Int) : J (Stat.of P w K mg base ["n", "every", "at", "longer", "one", "most", "part"] (defScope s__law_splittings) 0 tabs cdv B F0 "_law_splittings") [.sh (eI n1), .un, .un, .un, .un, .un, .un] (defBody s__law_splittings) (pT (eL (eT eI))) (m__law_splittings n1) := by
  unfold m__law_splittings
  refine j_bind fun every2 hevery2 => ?_
  refine j_set (i := 1) ⟨nd__law_splittings, rfl, .inl rfl, .inr rfl⟩ (EJ.of (FJ.ej (FJ.of (ds' := List.map (eT eI) [([] : List Int)]) (f_lst (a_cons (EJ.of (d' := ((eT eI) ([] : List Int))) (e_tup a_nil (len_le (n := 0) rfl (by decide))) rfl) a_nil (fun _ _ => rfl)) (len_le (n := 1) rfl (by decide))) rfl)) (congrArg (eL (eT eI)) (Option.some.inj hevery2))) (fun _ _ => rfl) ?_
  refine j_bind fun r3 hr3 => ?_
  refine j_to (γ2 := [.sh (eI n1), .sh ((eL (eT eI)) every2), .un, .un, .un, .un, .un]) rfl ?_
  refine j_for (enc := eI) (xs := r3) (γ0 := fun (s4 : ((List (List Int)))) => [.un, .sh ((eL (eT eI)) s4), .un, .un, .un, .un, .un]) (t0 := (every2)) (i_range1O rfl C.b_range (e_var (i := 0) rfl (.inl rfl) rfl) (fun _ _ => rfl) hr3) (⟨rfl, trivial⟩) (fun s4 x5 hx5 => ⟨_, _, (g_name (i := 2) ⟨nd__law_splittings, rfl, .inl rfl, .inr rfl⟩), ?_⟩) (fun s4 => ?_) (fun _ _ => rfl)
  · refine j_bind fun longer6 hlonger6 => ?_
    refine j_set (i := 3) ⟨nd__law_splittings, rfl, .inl rfl, .inr rfl⟩ (EJ.of (FJ.ej (FJ.of (ds' := List.map (eT eI) ([] : List (List Int))) (f_lst a_nil (len_le (n := 0) rfl (by decide))) rfl)) (congrArg (eL (eT eI)) (Option.some.inj hlonger6))) (fun _ _ => rfl) ?_
    refine j_to (γ2 := [.un, .sh ((eL (eT eI)) s4), .sh (eI x5), .sh ((eL (eT eI)) longer6), .un, .un, .un]) rfl ?_
    refine j_for (enc := (eT eI)) (xs := s4) (γ0 := fun (s7 : ((List (List Int)))) => [.un, .un, .un, .sh ((eL (eT eI)) s7), .un, .un, .un]) (t0 := (longer6)) (i_list (e_var (i := 1) rfl (.inl rfl) rfl)) (⟨rfl, trivial⟩) (fun s7 x8 hx8 => ⟨_, _, (g_name (i := 4) ⟨nd__law_splittings, rfl, .inr rfl, .inl rfl⟩), ?_⟩) (fun s7 => ?_) (fun _ _ => rfl)
    · refine j_bind fun most11 hmost11 => ?_
      refine j_set (i := 5) ⟨nd__law_splittings, rfl, .inl rfl, .inr rfl⟩ (EO.elim (eo_if (encB := eI) (t_cmp (c_gt (e_lenT (enc := eI) (xs := x8) rfl C.b_len (EJ.qt (e_var (i := 4) rfl (.inr (.inl rfl)) rfl)) (fun _ _ => rfl)) e_int) (nomark _)) (fun _ => (eo_bind fun t9 ht9 => (eo_some (encB := eI) (e_add (e_maxT rfl C.b_max (e_var (i := 4) rfl (.inr (.inl rfl)) rfl) ht9 (fun _ _ => rfl)) e_int)))) (fun _ => (eo_some (encB := eI) e_int))) hmost11) (fun _ _ => rfl) ?_
      refine j_bind fun r12 hr12 => ?_
      refine j_bind fun l15 hl15 => ?_
      refine j_bind fun longer17 hlonger17 => ?_
      refine j_set (i := 3) ⟨nd__law_splittings, rfl, .inl rfl, .inr rfl⟩ (FJ.ej (f_catO (enc := (eT eI)) (EJ.ql (e_var (i := 3) rfl (.inl rfl) rfl)) (FJ.q (f_lc (own := [("part", 6)]) (enc := eI) (encB := (eT eI)) (xs := r12) (f := (fun (x13 : Int) => ((catO x8 [x13]).bind fun t14 => (some (some t14))))) (IW.x (i_range1O rfl C.b_range (e_add (e_var (i := 5) rfl (.inl rfl) rfl) e_int) (fun _ _ => rfl) hr12)) (fun x13 _ => (cb_bind fun t14 ht14 => (cb0T (y := t14) (g_name (i := 6) ⟨nd__law_splittings, rfl, .inl rfl, .inr rfl⟩) (by decide) (e_catO (enc := eI) (e_var (i := 4) rfl (.inr (.inl rfl)) rfl) (EJ.of (d' := ((eT eI) [x13])) (e_tup (a_cons (e_var (i := 6) rfl (.inl rfl) rfl) a_nil (fun _ _ => rfl)) (len_le (n := 1) rfl (by decide))) rfl) ht14)))) hl15 nd__law_splittings rfl (by decide) (fun _ _ => rfl))) hlonger17)) (fun _ _ => rfl) ?_
      refine j_to (γ2 := [.un, .un, .un, .sh ((eL (eT eI)) longer17), .sh ((eT eI) x8), .sh (eI most11), .un]) rfl ?_
      exact j_nil (⟨rfl, trivial⟩)
    · refine j_bind fun every18 hevery18 => ?_
      refine j_set (i := 1) ⟨nd__law_splittings, rfl, .inl rfl, .inr rfl⟩ (EJ.of (e_var (i := 3) rfl (.inl rfl) rfl) (congrArg (eL (eT eI)) (Option.some.inj hevery18))) (fun _ _ => rfl) ?_
      refine j_to (γ2 := [.un, .sh ((eL (eT eI)) every18), .un, .sh ((eL (eT eI)) s7), .un, .un, .un]) rfl ?_
      exact j_nil (⟨rfl, trivial⟩)
  · exact j_ret (e_var (i := 1) rfl (.inl rfl) rfl) rfl
theorem ok__law_splittings (C : Gl K mg base tabs) : Known P w K mg base tabs 1 "_law_splittings" 1 R__law_splittings := known_of (k := 0) C.d__law_splittings sc__law_splittings fun cdv B F0 ds r _ hr => by
  obtain ⟨n1, y, rfl, hy, rfl⟩ := hr
  exact (j__law_splittings C cdv B F0 n1).body hy
def R__law_rift (ds : List PyData) (r : PyData) : Prop := ∃ (every1 : (List (List Int))), ∃ (roads2 : (List (Int × Int))), ∃ (k3 : Int), ∃ (splitting4 : (List Int)), ∃ y, ds = [(eL (eT eI)) every1, (eT (eP2 eI eI)) roads2, eI k3, (eT eI) splitting4] ∧ m__law_rift every1 roads2 k3 splitting4 = some y ∧ r = eB y
theorem j__law_rift (C : Gl K mg base tabs) (cdv : Value) (B F0 : Hp) (every1 : (List (List Int))) (roads2 : (List (Int × Int))) (k3 : Int) (splitting4 : (List Int)) : J (Stat.of P w K mg base ["every", "roads", "k", "splitting", "between", "road"] (defScope s__law_rift) 0 tabs cdv B F0 "_law_rift") [.sh ((eL (eT eI)) every1), .sh ((eT (eP2 eI eI)) roads2), .sh (eI k3), .sh ((eT eI) splitting4), .un, .un] (defBody s__law_rift) (pT eB) (m__law_rift every1 roads2 k3 splitting4) := by
  unfold m__law_rift
  refine j_bind fun t6 ht6 => ?_
  refine j_ifR (TOp.elim (to_w (wo_or (to_some (t_cmp (c_notInE (eqE_T eqE_I) (by decide) (e_var (i := 3) rfl (.inr (.inl rfl)) rfl) (EJ.ql (e_var (i := 0) rfl (.inl rfl) rfl))) rfl)) fun _ => (wo_or1 (to_bind fun t5 ht5 => (to_some (t_cmp (c_eqI (e_maxT rfl C.b_max (e_var (i := 3) rfl (.inr (.inl rfl)) rfl) ht5 (fun _ _ => rfl)) e_int) (nomark _))))))) ht6) (fun hc => ?_) (fun hc => ?_)
  · exact j_ret e_bl rfl
  · refine j_bind fun between11 hl10 => ?_
    refine j_setLc (i := 4) (own := [("road", 5)]) (encA := (eP2 eI eI)) (encB := (eP2 eI eI)) (xs := roads2) (f := (fun (x7 : (Int × Int)) => ((atI splitting4 x7.1).bind fun t8 => ((atI splitting4 x7.2).bind fun t9 => (if (!(decide (t8 = t9))) = true then (some x7).bind (fun y => some (some y)) else some none))))) (ys := between11) ⟨nd__law_rift, rfl, .inl rfl, .inr rfl⟩ rfl (IW.x (i_tup (e_var (i := 1) rfl (.inl rfl) rfl))) (fun x7 _ => (cb_bind fun t8 ht8 => (cb_bind fun t9 ht9 => (cb1 (k := (!(decide (t8 = t9)))) (o := (some x7)) (g_name (i := 5) ⟨nd__law_rift, rfl, .inl rfl, .inr rfl⟩) (by decide) (t_cmp (c_neI (e_ixT (enc := eI) (xs := splitting4) (EJ.qt (e_var (i := 3) rfl (.inr (.inl rfl)) rfl)) (e_ixC (i := 0) (e_var (i := 5) rfl (.inl rfl) rfl) rfl) ht8 (fun _ _ => rfl)) (e_ixT (enc := eI) (xs := splitting4) (EJ.qt (e_var (i := 3) rfl (.inr (.inl rfl)) rfl)) (e_ixC (i := 1) (e_var (i := 5) rfl (.inl rfl) rfl) rfl) ht9 (fun _ _ => rfl))) (nomark _)) (fun _ => (eo_some (encB := (eP2 eI eI)) (e_var (i := 5) rfl (.inl rfl) rfl))))))) hl10 rfl (by decide) (fun _ _ => rfl) rfl rfl rfl ?_
    refine j_share (j := 4) rfl ?_
    refine j_bind fun t12 ht12 => ?_
    refine j_bind fun t13 ht13 => ?_
    refine j_bind fun t14 ht14 => ?_
    exact j_ret (e_cmp (c_gt (e_mulO (e_var (i := 2) rfl (.inl rfl) rfl) (e_maxT rfl C.b_max (e_var (i := 3) rfl (.inr (.inl rfl)) rfl) ht12 (fun _ _ => rfl)) ht13) (e_mulO (e_sub (e_var (i := 2) rfl (.inl rfl) rfl) e_int) (e_lenT (enc := (eP2 eI eI)) (xs := between11) rfl C.b_len (EJ.ql (e_var (i := 4) rfl (.inl rfl) rfl)) (fun _ _ => rfl)) ht14)) (nomark _)) rfl
theorem ok__law_rift (C : Gl K mg base tabs) : Known P w K mg base tabs 1 "_law_rift" 4 R__law_rift := known_of (k := 0) C.d__law_rift sc__law_rift fun cdv B F0 ds r _ hr => by
  obtain ⟨every1, roads2, k3, splitting4, y, rfl, hy, rfl⟩ := hr
  exact (j__law_rift C cdv B F0 every1 roads2 k3 splitting4).body hy
def R__law_roads (ds : List PyData) (r : PyData) : Prop := ∃ (draws1 : (List Int)), ∃ (n2 : Int), ∃ (trees3 : Int), ∃ y, ds = [(eL eI) draws1, eI n2, eI trees3] ∧ m__law_roads draws1 n2 trees3 = some y ∧ r = (eT (eP2 eI eI)) y
theorem j__law_roads (C : Gl K mg base tabs) (cdv : Value) (B F0 : Hp) (draws1 : (List Int)) (n2 : Int) (trees3 : Int) : J (Stat.of P w K mg base ["draws", "n", "trees", "roads", "at", "moved", "b", "one", "a"] (defScope s__law_roads) 0 tabs cdv B F0 "_law_roads") [.sh ((eL eI) draws1), .sh (eI n2), .sh (eI trees3), .un, .un, .un, .un, .un, .un] (defBody s__law_roads) (pT (eT (eP2 eI eI))) (m__law_roads draws1 n2 trees3) := by
  unfold m__law_roads
  refine j_bind fun roads4 hroads4 => ?_
  refine j_setF (i := 3) ⟨nd__law_roads, rfl, .inl rfl, .inr rfl⟩ (FJ.of (FJ.of (ds' := List.map (eP2 eI eI) ([] : List (Int × Int))) (f_lst a_nil (len_le (n := 0) rfl (by decide))) rfl) (congrArg (List.map (eP2 eI eI)) (Option.some.inj hroads4))) (fun _ _ => rfl) ?_
  refine j_bind fun t5 ht5 => ?_
  refine j_bind fun r6 hr6 => ?_
  refine j_to (γ2 := [.sh ((eL eI) draws1), .sh (eI n2), .sh (eI trees3), .ow (.list (List.map (eP2 eI eI) roads4)), .un, .un, .un, .un, .un]) rfl ?_
  refine j_for (enc := eI) (xs := r6) (γ0 := fun (s7 : ((List (Int × Int)))) => [.sh ((eL eI) draws1), .sh (eI n2), .sh (eI trees3), .ow (.list (List.map (eP2 eI eI) s7)), .un, .un, .un, .un, .un]) (t0 := (roads4)) (i_range1O rfl C.b_range (e_mulO (e_var (i := 2) rfl (.inl rfl) rfl) (e_sub (e_var (i := 1) rfl (.inl rfl) rfl) e_int) ht5) (fun _ _ => rfl) hr6) (⟨rfl, ⟨rfl, ⟨rfl, ⟨rfl, trivial⟩⟩⟩⟩) (fun s7 x8 hx8 => ⟨_, _, (g_name (i := 4) ⟨nd__law_roads, rfl, .inl rfl, .inr rfl⟩), ?_⟩) (fun s7 => ?_) (fun _ _ => rfl)
  · refine j_bind fun t9 ht9 => ?_
    refine j_bind fun b10 hb10 => ?_
    refine j_set (i := 6) ⟨nd__law_roads, rfl, .inl rfl, .inr rfl⟩ (EJ.of (e_add (e_fdivO (e_var (i := 4) rfl (.inl rfl) rfl) (e_var (i := 2) rfl (.inl rfl) rfl) ht9) e_int) (congrArg eI (Option.some.inj hb10))) (fun _ _ => rfl) ?_
    refine j_bind fun t11 ht11 => ?_
    refine j_bind fun t12 ht12 => ?_
    refine j_bind fun roads13 hroads13 => ?_
    refine j_appO (j := 3) (enc := (eP2 eI eI)) (xs := s7) (zs := roads13) rfl (.inl rfl) rfl (EJ.of (d' := ((eP2 eI eI) (t12, b10))) (e_tup (a_cons (e_modO (e_int1 rfl C.b_int (e_ixT (enc := eI) (xs := draws1) (EJ.ql (e_var (i := 0) rfl (.inl rfl) rfl)) (e_var (i := 4) rfl (.inl rfl) rfl) ht11 (fun _ _ => rfl)) (fun _ _ => rfl)) (e_var (i := 6) rfl (.inl rfl) rfl) ht12) (a_cons (e_var (i := 6) rfl (.inl rfl) rfl) a_nil (fun _ _ => rfl)) (fun _ _ => rfl)) (len_le (n := 2) rfl (by decide))) rfl) hroads13 (fun _ _ => rfl) (by decide) (by decide) (fun _ => rfl) rfl ?_
    refine j_to (γ2 := [.sh ((eL eI) draws1), .sh (eI n2), .sh (eI trees3), .ow (.list (List.map (eP2 eI eI) roads13)), .sh (eI x8), .un, .sh (eI b10), .un, .un]) rfl ?_
    exact j_nil (⟨rfl, ⟨rfl, ⟨rfl, ⟨rfl, trivial⟩⟩⟩⟩)
  · refine j_bind fun t16 ht16 => ?_
    refine j_bind fun r17 hr17 => ?_
    refine j_to (γ2 := [.sh ((eL eI) draws1), .sh (eI n2), .sh (eI trees3), .ow (.list (List.map (eP2 eI eI) s7)), .un, .un, .un, .un, .un]) rfl ?_
    refine j_for (enc := eI) (xs := r17) (γ0 := fun (s18 : ((List (Int × Int)))) => [.sh ((eL eI) draws1), .sh (eI n2), .un, .ow (.list (List.map (eP2 eI eI) s18)), .un, .un, .un, .un, .un]) (t0 := (s7)) (i_range1O rfl C.b_range (EO.elim (eo_if (encB := eI) (t_cmp (c_gt (e_var (i := 1) rfl (.inl rfl) rfl) e_int) (nomark _)) (fun _ => (eo_bind fun t14 ht14 => (eo_bind fun t15 ht15 => (eo_some (encB := eI) (e_modO (e_int1 rfl C.b_int (e_ixT (enc := eI) (xs := draws1) (EJ.ql (e_var (i := 0) rfl (.inl rfl) rfl)) e_int ht14 (fun _ _ => rfl)) (fun _ _ => rfl)) (e_sub e_int (e_lenT (enc := (eP2 eI eI)) (xs := s7) rfl C.b_len (q_own (i := 3) (ds := List.map (eP2 eI eI) s7) rfl (.inl rfl) rfl) (fun _ _ => rfl))) ht15))))) (fun _ => (eo_some (encB := eI) e_int))) ht16) (fun _ _ => rfl) hr17) (⟨rfl, ⟨rfl, ⟨rfl, trivial⟩⟩⟩) (fun s18 x19 hx19 => ⟨_, _, (g_name (i := 4) ⟨nd__law_roads, rfl, .inl rfl, .inr rfl⟩), ?_⟩) (fun s18 => ?_) (fun _ _ => rfl)
    · refine j_bind fun one21 hone21 => ?_
      refine j_set (i := 7) ⟨nd__law_roads, rfl, .inl rfl, .inr rfl⟩ (e_int1 rfl C.b_int (e_ixT (enc := eI) (xs := draws1) (EJ.ql (e_var (i := 0) rfl (.inl rfl) rfl)) (e_add e_int (e_var (i := 4) rfl (.inl rfl) rfl)) hone21 (fun _ _ => rfl)) (fun _ _ => rfl)) (fun _ _ => rfl) ?_
      refine j_bind fun a23 ha23 => ?_
      refine j_set (i := 8) ⟨nd__law_roads, rfl, .inl rfl, .inr rfl⟩ (e_modO (e_var (i := 7) rfl (.inl rfl) rfl) (e_var (i := 1) rfl (.inl rfl) rfl) ha23) (fun _ _ => rfl) ?_
      refine j_bind fun t24 ht24 => ?_
      refine j_bind fun b26 hb26 => ?_
      refine j_set (i := 6) ⟨nd__law_roads, rfl, .inl rfl, .inr rfl⟩ (e_modO (e_int1 rfl C.b_int (e_add (e_add (e_var (i := 8) rfl (.inl rfl) rfl) e_int) (e_modO (e_fdiv (e_var (i := 7) rfl (.inl rfl) rfl) e_int ⟨by decide, by decide⟩) (e_sub (e_var (i := 1) rfl (.inl rfl) rfl) e_int) ht24)) (fun _ _ => rfl)) (e_var (i := 1) rfl (.inl rfl) rfl) hb26) (fun _ _ => rfl) ?_
      refine j_bind fun roads27 hroads27 => ?_
      refine j_appO (j := 3) (enc := (eP2 eI eI)) (xs := s18) (zs := roads27) rfl (.inl rfl) rfl (EJ.of (d' := ((eP2 eI eI) ((min a23 b26), (max a23 b26)))) (e_tup (a_cons (e_min2 rfl C.b_min (e_var (i := 8) rfl (.inl rfl) rfl) (e_var (i := 6) rfl (.inl rfl) rfl) (fun _ _ => rfl) (fun _ _ => rfl) (fun _ => rfl)) (a_cons (e_max2 rfl C.b_max (e_var (i := 8) rfl (.inl rfl) rfl) (e_var (i := 6) rfl (.inl rfl) rfl) (fun _ _ => rfl) (fun _ _ => rfl) (fun _ => rfl)) a_nil (fun _ _ => rfl)) (fun _ _ => rfl)) (len_le (n := 2) rfl (by decide))) rfl) hroads27 (fun _ _ => rfl) (by decide) (by decide) (fun _ => rfl) rfl ?_
      refine j_to (γ2 := [.sh ((eL eI) draws1), .sh (eI n2), .un, .ow (.list (List.map (eP2 eI eI) roads27)), .sh (eI x19), .un, .sh (eI b26), .sh (eI one21), .sh (eI a23)]) rfl ?_
      exact j_nil (⟨rfl, ⟨rfl, ⟨rfl, trivial⟩⟩⟩)
    · refine j_bind fun t28 ht28 => ?_
      refine j_bind fun moved30 hmoved30 => ?_
      refine j_set (i := 5) ⟨nd__law_roads, rfl, .inl rfl, .inr rfl⟩ (e_modO (e_int1 rfl C.b_int (e_ixT (enc := eI) (xs := draws1) (EJ.ql (e_var (i := 0) rfl (.inl rfl) rfl)) e_int ht28 (fun _ _ => rfl)) (fun _ _ => rfl)) (e_add (e_lenT (enc := (eP2 eI eI)) (xs := s18) rfl C.b_len (q_own (i := 3) (ds := List.map (eP2 eI eI) s18) rfl (.inl rfl) rfl) (fun _ _ => rfl)) e_int) hmoved30) (fun _ _ => rfl) ?_
      refine j_bind fun t31 ht31 => ?_
      exact j_ret (e_tuple (k := .l) rfl C.b_tuple (FJ.q (f_catO (enc := (eP2 eI eI)) (FJ.q (f_slT (enc := (eP2 eI eI)) (q_own (i := 3) (ds := List.map (eP2 eI eI) s18) rfl (.inl rfl) rfl) (o_some (e_var (i := 5) rfl (.inl rfl) rfl)) o_none)) (FJ.q (f_slT (enc := (eP2 eI eI)) (q_own (i := 3) (ds := List.map (eP2 eI eI) s18) rfl (.inl rfl) rfl) o_none (o_some (e_var (i := 5) rfl (.inl rfl) rfl)))) ht31)) (fun _ _ => rfl)) rfl
theorem ok__law_roads (C : Gl K mg base tabs) : Known P w K mg base tabs 1 "_law_roads" 3 R__law_roads := known_of (k := 0) C.d__law_roads sc__law_roads fun cdv B F0 ds r _ hr => by
  obtain ⟨draws1, n2, trees3, y, rfl, hy, rfl⟩ := hr
  exact (j__law_roads C cdv B F0 draws1 n2 trees3).body hy
def R_law (ds : List PyData) (r : PyData) : Prop := ∃ (script1 : (List Int)), ∃ y, ds = [(eL eI) script1] ∧ m_law script1 = some y ∧ r = eB y
theorem j_law (C : Gl K mg base tabs) (cdv : Value) (B F0 : Hp) (script1 : (List Int)) : J (Stat.of P w K mg base ["script", "turn", "draws", "n", "k", "roads", "every", "rifts", "due", "at", "base", "asked", "one", "place"] (defScope s_law) 8 tabs cdv B F0 "law") [.sh ((eL eI) script1), .un, .un, .un, .un, .un, .un, .un, .un, .un, .un, .un, .un, .un] (defBody s_law) (pT eB) (m_law script1) := by
  unfold m_law
  refine j_bind fun r2 hr2 => ?_
  refine j_to (γ2 := [.sh ((eL eI) script1), .un, .un, .un, .un, .un, .un, .un, .un, .un, .un, .un, .un, .un]) rfl ?_
  refine j_forR (enc := eI) (xs := r2) (encR := eB) (γ0 := fun (s3 : Unit) => [.sh ((eL eI) script1), .un, .un, .un, .un, .un, .un, .un, .un, .un, .un, .un, .un, .un]) (t0 := ()) (i_range1O rfl C.b_range e_int (fun _ _ => rfl) hr2) (⟨rfl, trivial⟩) (fun s3 x4 hx4 => ⟨_, _, (g_name (i := 1) ⟨nd_law, rfl, .inl rfl, .inr rfl⟩), ?_⟩) (fun _ => rfl) (fun s3 => ?_) (fun _ _ => rfl)
  · refine j_bind fun t5 ht5 => ?_
    refine j_bind fun draws7 hdraws7 => ?_
    refine j_set (i := 2) ⟨nd_law, rfl, .inr rfl, .inl rfl⟩ (EJ.of (d' := (eL eI) draws7) (e_callK (ok__law_draws C) (Nat.le_of_ble_eq_true rfl) rfl (a_cons (EJ.of (d' := eI t5) (e_callK (ok__law_cell C) (Nat.le_of_ble_eq_true rfl) rfl (a_cons (e_var (i := 0) rfl (.inl rfl) rfl) (a_cons (e_var (i := 1) rfl (.inl rfl) rfl) a_nil (fun _ _ => rfl)) (fun _ _ => rfl)) ⟨script1, x4, t5, rfl, ht5, rfl⟩ rfl (fun _ _ => rfl) (fun _ => rfl) (by decide)) rfl) (a_cons e_int a_nil (fun _ _ => rfl)) (fun _ _ => rfl)) ⟨t5, (60 : Int), draws7, rfl, hdraws7, rfl⟩ rfl (fun _ _ => rfl) (fun _ => rfl) (by decide)) rfl) (fun _ _ => rfl) ?_
    refine j_bind fun t8 ht8 => ?_
    refine j_bind fun t9 ht9 => ?_
    refine j_bind fun t10 ht10 => ?_
    refine j_bind fun n12 hn12 => ?_
    refine j_set (i := 3) ⟨nd_law, rfl, .inl rfl, .inr rfl⟩ (e_ixT (enc := eI) (xs := [((1 : Int) + (t8 % (4 : Int))), ((2 : Int) + (t9 % (3 : Int))), ((3 : Int) + (t10 % (2 : Int)))]) (EJ.qt (EJ.of (d' := ((eT eI) [((1 : Int) + (t8 % (4 : Int))), ((2 : Int) + (t9 % (3 : Int))), ((3 : Int) + (t10 % (2 : Int)))])) (e_tup (a_cons (e_add e_int (e_mod (e_int1 rfl C.b_int (e_ixT (enc := eI) (xs := draws7) (EJ.ql (e_var (i := 2) rfl (.inr (.inl rfl)) rfl)) e_int ht8 (fun _ _ => rfl)) (fun _ _ => rfl)) e_int (by decide))) (a_cons (e_add e_int (e_mod (e_int1 rfl C.b_int (e_ixT (enc := eI) (xs := draws7) (EJ.ql (e_var (i := 2) rfl (.inr (.inl rfl)) rfl)) e_int ht9 (fun _ _ => rfl)) (fun _ _ => rfl)) e_int (by decide))) (a_cons (e_add e_int (e_mod (e_int1 rfl C.b_int (e_ixT (enc := eI) (xs := draws7) (EJ.ql (e_var (i := 2) rfl (.inr (.inl rfl)) rfl)) e_int ht10 (fun _ _ => rfl)) (fun _ _ => rfl)) e_int (by decide))) a_nil (fun _ _ => rfl)) (fun _ _ => rfl)) (fun _ _ => rfl)) (len_le (n := 3) rfl (by decide))) rfl)) (e_var (i := 1) rfl (.inl rfl) rfl) hn12 (fun _ _ => rfl)) (fun _ _ => rfl) ?_
    refine j_bind fun t13 ht13 => ?_
    refine j_bind fun t14 ht14 => ?_
    refine j_bind fun k16 hk16 => ?_
    refine j_set (i := 4) ⟨nd_law, rfl, .inr rfl, .inl rfl⟩ (e_ixT (enc := eI) (xs := [(2 : Int), ((1 : Int) + (t13 % (3 : Int))), ((2 : Int) + (t14 % (2 : Int)))]) (EJ.qt (EJ.of (d' := ((eT eI) [(2 : Int), ((1 : Int) + (t13 % (3 : Int))), ((2 : Int) + (t14 % (2 : Int)))])) (e_tup (a_cons e_int (a_cons (e_add e_int (e_mod (e_int1 rfl C.b_int (e_ixT (enc := eI) (xs := draws7) (EJ.ql (e_var (i := 2) rfl (.inr (.inl rfl)) rfl)) e_int ht13 (fun _ _ => rfl)) (fun _ _ => rfl)) e_int (by decide))) (a_cons (e_add e_int (e_mod (e_int1 rfl C.b_int (e_ixT (enc := eI) (xs := draws7) (EJ.ql (e_var (i := 2) rfl (.inr (.inl rfl)) rfl)) e_int ht14 (fun _ _ => rfl)) (fun _ _ => rfl)) e_int (by decide))) a_nil (fun _ _ => rfl)) (fun _ _ => rfl)) (fun _ _ => rfl)) (len_le (n := 3) rfl (by decide))) rfl)) (e_var (i := 1) rfl (.inl rfl) rfl) hk16 (fun _ _ => rfl)) (fun _ _ => rfl) ?_
    refine j_bind fun t17 ht17 => ?_
    refine j_bind fun roads19 hroads19 => ?_
    refine j_set (i := 5) ⟨nd_law, rfl, .inr rfl, .inl rfl⟩ (EJ.of (d' := (eT (eP2 eI eI)) roads19) (e_callK (ok__law_roads C) (Nat.le_of_ble_eq_true rfl) rfl (a_cons (FJ.ej (f_slT (enc := eI) (EJ.ql (e_var (i := 2) rfl (.inr (.inl rfl)) rfl)) (o_some e_int) (o_some e_int))) (a_cons (e_var (i := 3) rfl (.inl rfl) rfl) (a_cons (e_ixT (enc := eI) (xs := [(2 : Int), (0 : Int), (1 : Int)]) (EJ.qt (EJ.of (d' := ((eT eI) [(2 : Int), (0 : Int), (1 : Int)])) (e_tup (a_cons e_int (a_cons e_int (a_cons e_int a_nil (fun _ _ => rfl)) (fun _ _ => rfl)) (fun _ _ => rfl)) (len_le (n := 3) rfl (by decide))) rfl)) (e_var (i := 1) rfl (.inl rfl) rfl) ht17 (fun _ _ => rfl)) a_nil (fun _ _ => rfl)) (fun _ _ => rfl)) (fun _ _ => rfl)) ⟨(cut draws7 (some (2 : Int)) (some (20 : Int))), n12, t17, roads19, rfl, hroads19, rfl⟩ rfl (fun _ _ => rfl) (fun _ => rfl) (by decide)) rfl) (fun _ _ => rfl) ?_
    refine j_bind fun every21 hevery21 => ?_
    refine j_set (i := 6) ⟨nd_law, rfl, .inr rfl, .inl rfl⟩ (EJ.of (d' := (eL (eT eI)) every21) (e_callK (ok__law_splittings C) (Nat.le_of_ble_eq_true rfl) rfl (a_cons (e_var (i := 3) rfl (.inl rfl) rfl) a_nil (fun _ _ => rfl)) ⟨n12, every21, rfl, hevery21, rfl⟩ rfl (fun _ _ => rfl) (fun _ => rfl) (by decide)) rfl) (fun _ _ => rfl) ?_
    refine j_bind fun rifts25 hl24 => ?_
    refine j_setLc (i := 7) (own := [("one", 12)]) (encA := (eT eI)) (encB := (eT eI)) (xs := every21) (f := (fun (x22 : (List Int)) => ((m__law_rift every21 roads19 k16 x22).bind fun t23 => (if t23 = true then (some x22).bind (fun y => some (some y)) else some none)))) (ys := rifts25) ⟨nd_law, rfl, .inl rfl, .inr rfl⟩ rfl (IW.x (i_list (e_var (i := 6) rfl (.inr (.inl rfl)) rfl))) (fun x22 _ => (cb_bind fun t23 ht23 => (cb1 (k := t23) (o := (some x22)) (g_name (i := 12) ⟨nd_law, rfl, .inl rfl, .inr rfl⟩) (by decide) (t_val (EJ.of (d' := eB t23) (e_callK (ok__law_rift C) (Nat.le_of_ble_eq_true rfl) rfl (a_cons (e_var (i := 6) rfl (.inr (.inl rfl)) rfl) (a_cons (e_var (i := 5) rfl (.inr (.inl rfl)) rfl) (a_cons (e_var (i := 4) rfl (.inr (.inl rfl)) rfl) (a_cons (e_var (i := 12) rfl (.inl rfl) rfl) a_nil (fun _ _ => rfl)) (fun _ _ => rfl)) (fun _ _ => rfl)) (fun _ _ => rfl)) ⟨every21, roads19, k16, x22, t23, rfl, ht23, rfl⟩ rfl (fun _ _ => rfl) (fun _ => rfl) (by decide)) rfl) (fun _ _ => rfl)) (fun _ => (eo_some (encB := (eT eI)) (e_var (i := 12) rfl (.inl rfl) rfl)))))) hl24 rfl (by decide) (fun _ _ => rfl) rfl rfl rfl ?_
    refine j_share (j := 7) rfl ?_
    refine j_bind fun due27 hdue27 => ?_
    refine j_set (i := 8) ⟨nd_law, rfl, .inl rfl, .inr rfl⟩ (EJ.of (d' := (eO (eT eI)) due27) (e_callK (ok__law_least_turns C) (Nat.le_of_ble_eq_true rfl) rfl (a_cons (e_var (i := 3) rfl (.inl rfl) rfl) (a_cons (e_var (i := 5) rfl (.inr (.inl rfl)) rfl) (a_cons (e_var (i := 4) rfl (.inr (.inl rfl)) rfl) a_nil (fun _ _ => rfl)) (fun _ _ => rfl)) (fun _ _ => rfl)) ⟨n12, roads19, k16, due27, rfl, hdue27, rfl⟩ rfl (fun _ _ => rfl) (fun _ => rfl) (by decide)) rfl) (fun _ _ => rfl) ?_
    refine j_ifR (t_w (w_or (t_cmp (c_neB (e_cmp (c_isN (e_var (i := 8) rfl (.inl rfl) rfl)) (nomark _)) (e_cmp (c_gt (e_lenT (enc := (eT eI)) (xs := rifts25) rfl C.b_len (EJ.ql (e_var (i := 7) rfl (.inl rfl) rfl)) (fun _ _ => rfl)) e_int) (nomark _))) (nomark _)) fun _ => (w_or1 (t_w (w_and (t_cmp (c_eqI (e_var (i := 1) rfl (.inl rfl) rfl) e_int) (nomark _)) fun _ => (w_and1 (t_cmp (c_isN (e_var (i := 8) rfl (.inl rfl) rfl)) (nomark _)))))))) (fun hc => ?_) (fun hc => ?_)
    · exact j_ret e_bl rfl
    · refine j_bind fun t28 ht28 => ?_
      refine j_bind fun t29 ht29 => ?_
      refine j_ifR (t_not (t_val (EJ.of (d' := eB t29) (e_callK (ok__law_is C) (Nat.le_of_ble_eq_true rfl) rfl (a_cons (EJ.of (d' := (eO (eT eI)) t28) (e_callK (ok_told_turns C) (Nat.le_of_ble_eq_true rfl) rfl (a_cons (e_var (i := 3) rfl (.inl rfl) rfl) (a_cons (e_var (i := 5) rfl (.inr (.inl rfl)) rfl) (a_cons (e_var (i := 4) rfl (.inr (.inl rfl)) rfl) a_nil (fun _ _ => rfl)) (fun _ _ => rfl)) (fun _ _ => rfl)) ⟨n12, roads19, k16, t28, rfl, ht28, rfl⟩ rfl (fun _ _ => rfl) (fun _ => rfl) (by decide)) rfl) (a_cons (e_var (i := 8) rfl (.inl rfl) rfl) a_nil (fun _ _ => rfl)) (fun _ _ => rfl)) ⟨((eO (eT eI)) t28), ((eO (eT eI)) due27), t29, rfl, ht29, rfl⟩ rfl (fun _ _ => rfl) (fun _ => rfl) (by decide)) rfl) (fun _ _ => rfl))) (fun hc => ?_) (fun hc => ?_)
      · exact j_ret e_bl rfl
      · refine j_bind fun t30 ht30 => ?_
        refine j_bind fun t32 ht32 => ?_
        refine j_bind fun t33 ht33 => ?_
        refine j_ifR (t_not (t_val (EJ.of (d' := eB t33) (e_callK (ok__law_is C) (Nat.le_of_ble_eq_true rfl) rfl (a_cons (EJ.of (d' := (eO (eT eI)) t30) (e_callK (ok_told_rift C) (Nat.le_of_ble_eq_true rfl) rfl (a_cons (e_var (i := 3) rfl (.inl rfl) rfl) (a_cons (e_var (i := 5) rfl (.inr (.inl rfl)) rfl) (a_cons (e_var (i := 4) rfl (.inr (.inl rfl)) rfl) a_nil (fun _ _ => rfl)) (fun _ _ => rfl)) (fun _ _ => rfl)) ⟨n12, roads19, k16, t30, rfl, ht30, rfl⟩ rfl (fun _ _ => rfl) (fun _ => rfl) (by decide)) rfl) (a_cons (EO.elim (eo_if (encB := (eO (eT eI))) (t_cmp (c_gt (e_lenT (enc := (eT eI)) (xs := rifts25) rfl C.b_len (EJ.ql (e_var (i := 7) rfl (.inl rfl) rfl)) (fun _ _ => rfl)) e_int) (nomark _)) (fun _ => (eo_bind fun t31 ht31 => (eo_some (encB := (eO (eT eI))) (EJ.into (enc := (eT eI)) (e_ixT (enc := (eT eI)) (xs := rifts25) (EJ.ql (e_var (i := 7) rfl (.inl rfl) rfl)) e_int ht31 (fun _ _ => rfl)))))) (fun _ => (eo_some (encB := (eO (eT eI))) (EJ.of (d' := (eO (eT eI)) none) e_non rfl)))) ht32) a_nil (fun _ _ => rfl)) (fun _ _ => rfl)) ⟨((eO (eT eI)) t30), ((eO (eT eI)) t32), t33, rfl, ht33, rfl⟩ rfl (fun _ _ => rfl) (fun _ => rfl) (by decide)) rfl) (fun _ _ => rfl))) (fun hc => ?_) (fun hc => ?_)
        · exact j_ret e_bl rfl
        · refine j_bind fun t37 ht37 => ?_
          refine j_ifR (TOp.elim (to_w (wo_and (to_some (t_cmp (c_gt (e_var (i := 3) rfl (.inl rfl) rfl) e_int) (nomark _))) fun _ => (wo_and1 (to_bind fun t36 ht36 => (to_some (TOp.elim (to_w (wo_or (to_bind fun t34 ht34 => (to_some (t_cmp (c_notN (EJ.of (d' := (eO (eT eI)) t34) (e_callK (ok_told_turns C) (Nat.le_of_ble_eq_true rfl) rfl (a_cons (e_var (i := 3) rfl (.inl rfl) rfl) (a_cons (e_slTT (enc := (eP2 eI eI)) (e_var (i := 5) rfl (.inr (.inl rfl)) rfl) o_none (o_some (e_sub (e_var (i := 3) rfl (.inl rfl) rfl) e_int))) (a_cons (e_var (i := 4) rfl (.inr (.inl rfl)) rfl) a_nil (fun _ _ => rfl)) (fun _ _ => rfl)) (fun _ _ => rfl)) ⟨n12, (cut roads19 none (some (n12 - (2 : Int)))), k16, t34, rfl, ht34, rfl⟩ rfl (fun _ _ => rfl) (fun _ => rfl) (by decide)) rfl)) (nomark _)))) fun _ => (wo_or1 (to_bind fun t35 ht35 => (to_some (t_cmp (c_isN (EJ.of (d' := (eO (eT eI)) t35) (e_callK (ok_told_rift C) (Nat.le_of_ble_eq_true rfl) rfl (a_cons (e_var (i := 3) rfl (.inl rfl) rfl) (a_cons (e_slTT (enc := (eP2 eI eI)) (e_var (i := 5) rfl (.inr (.inl rfl)) rfl) o_none (o_some (e_sub (e_var (i := 3) rfl (.inl rfl) rfl) e_int))) (a_cons (e_var (i := 4) rfl (.inr (.inl rfl)) rfl) a_nil (fun _ _ => rfl)) (fun _ _ => rfl)) (fun _ _ => rfl)) ⟨n12, (cut roads19 none (some (n12 - (2 : Int)))), k16, t35, rfl, ht35, rfl⟩ rfl (fun _ _ => rfl) (fun _ => rfl) (by decide)) rfl)) (nomark _))))))) ht36)))))) ht37) (fun hc => ?_) (fun hc => ?_)
          · exact j_ret e_bl rfl
          · refine j_bind fun r38 hr38 => ?_
            refine j_to (γ2 := [.sh ((eL eI) script1), .sh (eI x4), .sh ((eL eI) draws7), .sh (eI n12), .sh (eI k16), .sh ((eT (eP2 eI eI)) roads19), .sh ((eL (eT eI)) every21), .sh ((eL (eT eI)) rifts25), .sh ((eO (eT eI)) due27), .un, .un, .un, .un, .un]) rfl ?_
            refine j_forR (enc := eI) (xs := r38) (encR := eB) (γ0 := fun (s39 : Unit) => [.sh ((eL eI) script1), .un, .sh ((eL eI) draws7), .sh (eI n12), .sh (eI k16), .sh ((eT (eP2 eI eI)) roads19), .sh ((eL (eT eI)) every21), .un, .sh ((eO (eT eI)) due27), .un, .un, .un, .un, .un]) (t0 := ()) (i_range1O rfl C.b_range e_int (fun _ _ => rfl) hr38) (⟨rfl, ⟨rfl, ⟨rfl, ⟨rfl, ⟨rfl, ⟨rfl, ⟨rfl, trivial⟩⟩⟩⟩⟩⟩⟩) (fun s39 x40 hx40 => ⟨_, _, (g_name (i := 9) ⟨nd_law, rfl, .inl rfl, .inr rfl⟩), ?_⟩) (fun _ => rfl) (fun s39 => ?_) (fun _ _ => rfl)
            · refine j_bind fun base48 hbase48 => ?_
              refine j_set (i := 10) ⟨nd_law, rfl, .inl rfl, .inr rfl⟩ (EO.elim (eo_if (encB := (eT eI)) (t_cmp (c_notN (e_var (i := 8) rfl (.inl rfl) rfl)) (nomark _)) (fun _ => (eo_bind fun t46 ht46 => (eo_some (encB := (eT eI)) (EJ.some (enc := (eT eI)) (e_var (i := 8) rfl (.inl rfl) rfl) ht46)))) (fun _ => (eo_bind fun r41 hr41 => (eo_bind fun l45 hl45 => (eo_some (encB := (eT eI)) (e_tuple (k := .l) rfl C.b_tuple (FJ.q (f_lc (own := [("place", 13)]) (enc := eI) (encB := eI) (xs := r41) (f := (fun (x42 : Int) => ((atI draws7 ((20 : Int) + x42)).bind fun t43 => ((modO t43 k16).bind fun t44 => (some (some t44)))))) (IW.x (i_range1O rfl C.b_range (e_lenT (enc := (eP2 eI eI)) (xs := roads19) rfl C.b_len (EJ.qt (e_var (i := 5) rfl (.inr (.inl rfl)) rfl)) (fun _ _ => rfl)) (fun _ _ => rfl) hr41)) (fun x42 _ => (cb_bind fun t43 ht43 => (cb_bind fun t44 ht44 => (cb0T (y := t44) (g_name (i := 13) ⟨nd_law, rfl, .inl rfl, .inr rfl⟩) (by decide) (e_modO (e_int1 rfl C.b_int (e_ixT (enc := eI) (xs := draws7) (EJ.ql (e_var (i := 2) rfl (.inr (.inl rfl)) rfl)) (e_add e_int (e_var (i := 13) rfl (.inl rfl) rfl)) ht43 (fun _ _ => rfl)) (fun _ _ => rfl)) (e_var (i := 4) rfl (.inr (.inl rfl)) rfl) ht44))))) hl45 nd_law rfl (by decide) (fun _ _ => rfl))) (fun _ _ => rfl))))))) hbase48) (fun _ _ => rfl) ?_
              refine j_bind fun asked51 hasked51 => ?_
              refine j_set (i := 11) ⟨nd_law, rfl, .inl rfl, .inr rfl⟩ (EO.elim (eo_if (encB := (eT eI)) (t_cmp (c_eqI (e_var (i := 9) rfl (.inl rfl) rfl) e_int) (nomark _)) (fun _ => (eo_some (encB := (eT eI)) (e_var (i := 10) rfl (.inl rfl) rfl))) (fun _ => (eo_bind fun t49 ht49 => (eo_some (encB := (eT eI)) (EJ.of (d' := (eT eI) t49) (e_callK (ok__law_bent C) (Nat.le_of_ble_eq_true rfl) rfl (a_cons (e_var (i := 10) rfl (.inl rfl) rfl) (a_cons (FJ.ej (f_slT (enc := eI) (EJ.ql (e_var (i := 2) rfl (.inr (.inl rfl)) rfl)) (o_some (e_add e_int (e_mul e_int (e_var (i := 9) rfl (.inl rfl) rfl) (.inl (by decide))))) (o_some (e_add e_int (e_mul e_int (e_var (i := 9) rfl (.inl rfl) rfl) (.inl (by decide))))))) (a_cons (e_var (i := 4) rfl (.inr (.inl rfl)) rfl) a_nil (fun _ _ => rfl)) (fun _ _ => rfl)) (fun _ _ => rfl)) ⟨base48, (cut draws7 (some ((26 : Int) + ((3 : Int) * x40))) (some ((29 : Int) + ((3 : Int) * x40)))), k16, t49, rfl, ht49, rfl⟩ rfl (fun _ _ => rfl) (fun _ => rfl) (by decide)) rfl))))) hasked51) (fun _ _ => rfl) ?_
              refine j_bind fun t52 ht52 => ?_
              refine j_bind fun t53 ht53 => ?_
              refine j_bind fun t54 ht54 => ?_
              refine j_ifR (t_not (t_val (EJ.of (d' := eB t54) (e_callK (ok__law_is C) (Nat.le_of_ble_eq_true rfl) rfl (a_cons (EJ.of (d' := eB t52) (e_callK (ok_do_turns_hold C) (Nat.le_of_ble_eq_true rfl) rfl (a_cons (e_var (i := 3) rfl (.inl rfl) rfl) (a_cons (e_var (i := 5) rfl (.inr (.inl rfl)) rfl) (a_cons (e_var (i := 4) rfl (.inr (.inl rfl)) rfl) (a_cons (e_var (i := 11) rfl (.inl rfl) rfl) a_nil (fun _ _ => rfl)) (fun _ _ => rfl)) (fun _ _ => rfl)) (fun _ _ => rfl)) ⟨n12, roads19, k16, asked51, t52, rfl, ht52, rfl⟩ rfl (fun _ _ => rfl) (fun _ => rfl) (by decide)) rfl) (a_cons (EJ.of (d' := eB t53) (e_callK (ok__law_hold C) (Nat.le_of_ble_eq_true rfl) rfl (a_cons (e_var (i := 3) rfl (.inl rfl) rfl) (a_cons (e_var (i := 5) rfl (.inr (.inl rfl)) rfl) (a_cons (e_var (i := 4) rfl (.inr (.inl rfl)) rfl) (a_cons (e_var (i := 11) rfl (.inl rfl) rfl) a_nil (fun _ _ => rfl)) (fun _ _ => rfl)) (fun _ _ => rfl)) (fun _ _ => rfl)) ⟨n12, roads19, k16, asked51, t53, rfl, ht53, rfl⟩ rfl (fun _ _ => rfl) (fun _ => rfl) (by decide)) rfl) a_nil (fun _ _ => rfl)) (fun _ _ => rfl)) ⟨(eB t52), (eB t53), t54, rfl, ht54, rfl⟩ rfl (fun _ _ => rfl) (fun _ => rfl) (by decide)) rfl) (fun _ _ => rfl))) (fun hc => ?_) (fun hc => ?_)
              · exact j_ret e_bl rfl
              · refine j_bind fun t55 ht55 => ?_
                refine j_bind fun t56 ht56 => ?_
                refine j_bind fun one58 hone58 => ?_
                refine j_set (i := 12) ⟨nd_law, rfl, .inl rfl, .inr rfl⟩ (e_ixT (enc := (eT eI)) (xs := every21) (EJ.ql (e_var (i := 6) rfl (.inr (.inl rfl)) rfl)) (e_modO (e_int1 rfl C.b_int (e_ixT (enc := eI) (xs := draws7) (EJ.ql (e_var (i := 2) rfl (.inr (.inl rfl)) rfl)) (e_add e_int (e_var (i := 9) rfl (.inl rfl) rfl)) ht55 (fun _ _ => rfl)) (fun _ _ => rfl)) (e_lenT (enc := (eT eI)) (xs := every21) rfl C.b_len (EJ.ql (e_var (i := 6) rfl (.inr (.inl rfl)) rfl)) (fun _ _ => rfl)) ht56) hone58 (fun _ _ => rfl)) (fun _ _ => rfl) ?_
                refine j_bind fun one61 hone61 => ?_
                refine j_set (i := 12) ⟨nd_law, rfl, .inl rfl, .inr rfl⟩ (EO.elim (eo_if (encB := (eT eI)) (t_cmp (c_lt (e_var (i := 9) rfl (.inl rfl) rfl) e_int) (nomark _)) (fun _ => (eo_some (encB := (eT eI)) (e_var (i := 12) rfl (.inl rfl) rfl))) (fun _ => (eo_bind fun t59 ht59 => (eo_some (encB := (eT eI)) (EJ.of (d' := (eT eI) t59) (e_callK (ok__law_bent C) (Nat.le_of_ble_eq_true rfl) rfl (a_cons (e_var (i := 12) rfl (.inl rfl) rfl) (a_cons (FJ.ej (f_slT (enc := eI) (EJ.ql (e_var (i := 2) rfl (.inr (.inl rfl)) rfl)) (o_some (e_add e_int (e_var (i := 9) rfl (.inl rfl) rfl))) (o_some (e_add e_int (e_var (i := 9) rfl (.inl rfl) rfl))))) (a_cons (e_var (i := 3) rfl (.inl rfl) rfl) a_nil (fun _ _ => rfl)) (fun _ _ => rfl)) (fun _ _ => rfl)) ⟨one58, (cut draws7 (some ((48 : Int) + x40)) (some ((51 : Int) + x40))), n12, t59, rfl, ht59, rfl⟩ rfl (fun _ _ => rfl) (fun _ => rfl) (by decide)) rfl))))) hone61) (fun _ _ => rfl) ?_
                refine j_bind fun t62 ht62 => ?_
                refine j_bind fun t63 ht63 => ?_
                refine j_bind fun t64 ht64 => ?_
                refine j_ifR (t_not (t_val (EJ.of (d' := eB t64) (e_callK (ok__law_is C) (Nat.le_of_ble_eq_true rfl) rfl (a_cons (EJ.of (d' := eB t62) (e_callK (ok_is_rift C) (Nat.le_of_ble_eq_true rfl) rfl (a_cons (e_var (i := 3) rfl (.inl rfl) rfl) (a_cons (e_var (i := 5) rfl (.inr (.inl rfl)) rfl) (a_cons (e_var (i := 4) rfl (.inr (.inl rfl)) rfl) (a_cons (e_var (i := 12) rfl (.inl rfl) rfl) a_nil (fun _ _ => rfl)) (fun _ _ => rfl)) (fun _ _ => rfl)) (fun _ _ => rfl)) ⟨n12, roads19, k16, one61, t62, rfl, ht62, rfl⟩ rfl (fun _ _ => rfl) (fun _ => rfl) (by decide)) rfl) (a_cons (EJ.of (d' := eB t63) (e_callK (ok__law_rift C) (Nat.le_of_ble_eq_true rfl) rfl (a_cons (e_var (i := 6) rfl (.inr (.inl rfl)) rfl) (a_cons (e_var (i := 5) rfl (.inr (.inl rfl)) rfl) (a_cons (e_var (i := 4) rfl (.inr (.inl rfl)) rfl) (a_cons (e_var (i := 12) rfl (.inl rfl) rfl) a_nil (fun _ _ => rfl)) (fun _ _ => rfl)) (fun _ _ => rfl)) (fun _ _ => rfl)) ⟨every21, roads19, k16, one61, t63, rfl, ht63, rfl⟩ rfl (fun _ _ => rfl) (fun _ => rfl) (by decide)) rfl) a_nil (fun _ _ => rfl)) (fun _ _ => rfl)) ⟨(eB t62), (eB t63), t64, rfl, ht64, rfl⟩ rfl (fun _ _ => rfl) (fun _ => rfl) (by decide)) rfl) (fun _ _ => rfl))) (fun hc => ?_) (fun hc => ?_)
                · exact j_ret e_bl rfl
                · refine j_to (γ2 := [.sh ((eL eI) script1), .un, .sh ((eL eI) draws7), .sh (eI n12), .sh (eI k16), .sh ((eT (eP2 eI eI)) roads19), .sh ((eL (eT eI)) every21), .un, .sh ((eO (eT eI)) due27), .sh (eI x40), .sh ((eT eI) base48), .sh ((eT eI) asked51), .sh ((eT eI) one61), .un]) rfl ?_
                  exact j_nil (⟨rfl, ⟨rfl, ⟨rfl, ⟨rfl, ⟨rfl, ⟨rfl, ⟨rfl, trivial⟩⟩⟩⟩⟩⟩⟩)
            · refine j_to (γ2 := [.sh ((eL eI) script1), .un, .sh ((eL eI) draws7), .sh (eI n12), .sh (eI k16), .sh ((eT (eP2 eI eI)) roads19), .sh ((eL (eT eI)) every21), .un, .sh ((eO (eT eI)) due27), .un, .un, .un, .un, .un]) rfl ?_
              exact j_nil (⟨rfl, trivial⟩)
  · exact j_ret e_bl rfl
theorem ok_law (C : Gl K mg base tabs) : Known P w K mg base tabs 9 "law" 1 R_law := known_of (k := 8) C.d_law sc_law fun cdv B F0 ds r _ hr => by
  obtain ⟨script1, y, rfl, hy, rfl⟩ := hr
  exact (j_law C cdv B F0 script1).body hy
end
end K74

set_option autoImplicit false
set_option Elab.async false
set_option linter.all false
set_option maxRecDepth 100000
set_option maxHeartbeats 4000000
namespace K74
open PySem PySem.Spec PyProof.Rows L2 SM
theorem ok_law_fn {P : Program} {w : World} {K : PySem.W.Frag} {mg : Str → Option Value} {base : Heap} {tabs : Tbs} {f : Addr} {fd : FuncData} (C : Gl K mg base tabs) (Fn : Fun K "law" "law" s_law f fd) : FnOk P w K mg base CX0 9 f fd ["script"] (spR K tabs 1 R_law) :=
  def_ok (k := 8) Fn sc_law fun cdv B F0 ds r _ hr => by
    obtain ⟨x, y, rfl, hy, rfl⟩ := hr
    exact (j_law C cdv B F0 x).body hy
theorem all_mk {l : PySem.W.OpenLaw} {w : World} {K : PySem.W.Frag} {h : Heap} {mg : Str → Option Value} {fa : Addr} {q : Program}
    {f0 : Addr} {od0 an0 : Option Addr} {sl0 : Array (Option Value)} {oc0 kV0 dc0 pm0 cd0 ct0 : Value}
    {f1 : Addr} {od1 an1 : Option Addr} {sl1 : Array (Option Value)} {oc1 kV1 dc1 pm1 cd1 ct1 : Value}
    {f2 : Addr} {od2 an2 : Option Addr} {sl2 : Array (Option Value)} {oc2 kV2 dc2 pm2 ct2 : Value} {cc2 PP2 : Addr} {dd2 : DefRec} {oq2 : Value} {odq2 : Option Addr} {slq2 : Array (Option Value)} {vs2 : Array Value}
    {f3 : Addr} {od3 an3 : Option Addr} {sl3 : Array (Option Value)} {oc3 kV3 dc3 pm3 ct3 : Value} {cc3 PP3 : Addr} {dd3 : DefRec} {oq3 : Value} {odq3 : Option Addr} {slq3 : Array (Option Value)} {vs3 : Array Value}
    {f4 : Addr} {od4 an4 : Option Addr} {sl4 : Array (Option Value)} {oc4 kV4 dc4 pm4 cd4 ct4 : Value}
    {f5 : Addr} {od5 an5 : Option Addr} {sl5 : Array (Option Value)} {oc5 kV5 dc5 pm5 cd5 ct5 : Value}
    {f6 : Addr} {od6 an6 : Option Addr} {sl6 : Array (Option Value)} {oc6 kV6 dc6 pm6 cd6 ct6 : Value}
    {f7 : Addr} {od7 an7 : Option Addr} {sl7 : Array (Option Value)} {oc7 kV7 dc7 pm7 cd7 ct7 : Value}
    {f8 : Addr} {od8 an8 : Option Addr} {sl8 : Array (Option Value)} {oc8 kV8 dc8 pm8 cd8 ct8 : Value}
    {f9 : Addr} {od9 an9 : Option Addr} {sl9 : Array (Option Value)} {oc9 kV9 dc9 pm9 cd9 ct9 : Value}
    {f10 : Addr} {od10 an10 : Option Addr} {sl10 : Array (Option Value)} {oc10 kV10 dc10 pm10 cd10 ct10 : Value}
    {f11 : Addr} {od11 an11 : Option Addr} {sl11 : Array (Option Value)} {oc11 kV11 dc11 pm11 cd11 ct11 : Value}
    {f12 : Addr} {od12 an12 : Option Addr} {sl12 : Array (Option Value)} {oc12 kV12 dc12 pm12 cd12 ct12 : Value}
    {f13 : Addr} {od13 an13 : Option Addr} {sl13 : Array (Option Value)} {oc13 kV13 dc13 pm13 cd13 ct13 : Value}
    {f14 : Addr} {od14 an14 : Option Addr} {sl14 : Array (Option Value)} {oc14 kV14 dc14 pm14 cd14 ct14 : Value}
    {f15 : Addr} {od15 an15 : Option Addr} {sl15 : Array (Option Value)} {oc15 kV15 dc15 pm15 cd15 ct15 : Value}
    {f16 : Addr} {od16 an16 : Option Addr} {sl16 : Array (Option Value)} {oc16 kV16 dc16 pm16 cd16 ct16 : Value}
    {f17 : Addr} {od17 an17 : Option Addr} {sl17 : Array (Option Value)} {oc17 kV17 dc17 pm17 cd17 ct17 : Value}
    {f18 : Addr} {od18 an18 : Option Addr} {sl18 : Array (Option Value)} {oc18 kV18 dc18 pm18 cd18 ct18 : Value}
    {f19 : Addr} {od19 an19 : Option Addr} {sl19 : Array (Option Value)} {oc19 kV19 dc19 pm19 cd19 ct19 : Value}
    (hT : ∀ (y : Str) (dd : DefRec) (c P : Addr), (recsOf q).find? (fun e => e.name == y) = some dd → PySem.W.tabIn K y = some (c, P) → PySem.W.CodeHd h c P ∧ h.get? P = some { cls := .none, data := .fields #[] }) (X : K.In h) (G : h.Ns mainGlobals mg) (hfa : mg "law" = some (.ref fa))
    (a0 : PySem.W.nsIn K mainGlobals "do_hold_together" = some (some (.ref f0))) (l0 : K.lookup f0 = some ⟨oc0, od0, .func (PySem.W.fnOf "do_hold_together" "do_hold_together" (defArgs s_do_hold_together) (defBody s_do_hold_together) (defScope s_do_hold_together) .none kV0 dc0 pm0 an0 cd0 ct0), sl0⟩) (c0 : PySem.W.codeIn K cd0 "do_hold_together" = true) (k0 : PySem.W.keepIn K (.ref f0) = true)
    (a1 : PySem.W.nsIn K mainGlobals "does_day_hold" = some (some (.ref f1))) (l1 : K.lookup f1 = some ⟨oc1, od1, .func (PySem.W.fnOf "does_day_hold" "does_day_hold" (defArgs s_does_day_hold) (defBody s_does_day_hold) (defScope s_does_day_hold) .none kV1 dc1 pm1 an1 cd1 ct1), sl1⟩) (c1 : PySem.W.codeIn K cd1 "does_day_hold" = true) (k1 : PySem.W.keepIn K (.ref f1) = true)
    (a2 : PySem.W.nsIn K mainGlobals "do_turns_hold" = some (some (.ref f2))) (l2 : K.lookup f2 = some ⟨oc2, od2, .func (PySem.W.fnOf "do_turns_hold" "do_turns_hold" (defArgs s_do_turns_hold) (defBody s_do_turns_hold) (defScope s_do_turns_hold) .none kV2 dc2 pm2 an2 (.ref cc2) ct2), sl2⟩) (c2 : PySem.W.codeIn K (.ref cc2) "do_turns_hold" = true) (k2 : PySem.W.keepIn K (.ref f2) = true)
    (r2 : (recsOf q).find? (fun e => e.name == ("do_turns_hold" : Str)) = some dd2) (m2 : K.lookup cc2 = some ⟨oq2, odq2, .fields vs2, slq2⟩) (p2 : (vs2[11]? : Option Value) = some (.ref PP2)) (n2 : K.lookup PP2 = none)
    (a3 : PySem.W.nsIn K mainGlobals "is_splitting" = some (some (.ref f3))) (l3 : K.lookup f3 = some ⟨oc3, od3, .func (PySem.W.fnOf "is_splitting" "is_splitting" (defArgs s_is_splitting) (defBody s_is_splitting) (defScope s_is_splitting) .none kV3 dc3 pm3 an3 (.ref cc3) ct3), sl3⟩) (c3 : PySem.W.codeIn K (.ref cc3) "is_splitting" = true) (k3 : PySem.W.keepIn K (.ref f3) = true)
    (r3 : (recsOf q).find? (fun e => e.name == ("is_splitting" : Str)) = some dd3) (m3 : K.lookup cc3 = some ⟨oq3, odq3, .fields vs3, slq3⟩) (p3 : (vs3[11]? : Option Value) = some (.ref PP3)) (n3 : K.lookup PP3 = none)
    (a4 : PySem.W.nsIn K mainGlobals "is_rift" = some (some (.ref f4))) (l4 : K.lookup f4 = some ⟨oc4, od4, .func (PySem.W.fnOf "is_rift" "is_rift" (defArgs s_is_rift) (defBody s_is_rift) (defScope s_is_rift) .none kV4 dc4 pm4 an4 cd4 ct4), sl4⟩) (c4 : PySem.W.codeIn K cd4 "is_rift" = true) (k4 : PySem.W.keepIn K (.ref f4) = true)
    (a5 : PySem.W.nsIn K mainGlobals "all_splittings" = some (some (.ref f5))) (l5 : K.lookup f5 = some ⟨oc5, od5, .func (PySem.W.fnOf "all_splittings" "all_splittings" (defArgs s_all_splittings) (defBody s_all_splittings) (defScope s_all_splittings) .none kV5 dc5 pm5 an5 cd5 ct5), sl5⟩) (c5 : PySem.W.codeIn K cd5 "all_splittings" = true) (k5 : PySem.W.keepIn K (.ref f5) = true)
    (a6 : PySem.W.nsIn K mainGlobals "told_rift" = some (some (.ref f6))) (l6 : K.lookup f6 = some ⟨oc6, od6, .func (PySem.W.fnOf "told_rift" "told_rift" (defArgs s_told_rift) (defBody s_told_rift) (defScope s_told_rift) .none kV6 dc6 pm6 an6 cd6 ct6), sl6⟩) (c6 : PySem.W.codeIn K cd6 "told_rift" = true) (k6 : PySem.W.keepIn K (.ref f6) = true)
    (a7 : PySem.W.nsIn K mainGlobals "told_turns" = some (some (.ref f7))) (l7 : K.lookup f7 = some ⟨oc7, od7, .func (PySem.W.fnOf "told_turns" "told_turns" (defArgs s_told_turns) (defBody s_told_turns) (defScope s_told_turns) .none kV7 dc7 pm7 an7 cd7 ct7), sl7⟩) (c7 : PySem.W.codeIn K cd7 "told_turns" = true) (k7 : PySem.W.keepIn K (.ref f7) = true)
    (a8 : PySem.W.nsIn K mainGlobals "_law_cell" = some (some (.ref f8))) (l8 : K.lookup f8 = some ⟨oc8, od8, .func (PySem.W.fnOf "_law_cell" "_law_cell" (defArgs s__law_cell) (defBody s__law_cell) (defScope s__law_cell) .none kV8 dc8 pm8 an8 cd8 ct8), sl8⟩) (c8 : PySem.W.codeIn K cd8 "_law_cell" = true) (k8 : PySem.W.keepIn K (.ref f8) = true)
    (a9 : PySem.W.nsIn K mainGlobals "_law_draws" = some (some (.ref f9))) (l9 : K.lookup f9 = some ⟨oc9, od9, .func (PySem.W.fnOf "_law_draws" "_law_draws" (defArgs s__law_draws) (defBody s__law_draws) (defScope s__law_draws) .none kV9 dc9 pm9 an9 cd9 ct9), sl9⟩) (c9 : PySem.W.codeIn K cd9 "_law_draws" = true) (k9 : PySem.W.keepIn K (.ref f9) = true)
    (a10 : PySem.W.nsIn K mainGlobals "_law_is_integer" = some (some (.ref f10))) (l10 : K.lookup f10 = some ⟨oc10, od10, .func (PySem.W.fnOf "_law_is_integer" "_law_is_integer" (defArgs s__law_is_integer) (defBody s__law_is_integer) (defScope s__law_is_integer) .none kV10 dc10 pm10 an10 cd10 ct10), sl10⟩) (c10 : PySem.W.codeIn K cd10 "_law_is_integer" = true) (k10 : PySem.W.keepIn K (.ref f10) = true)
    (a11 : PySem.W.nsIn K mainGlobals "_law_is" = some (some (.ref f11))) (l11 : K.lookup f11 = some ⟨oc11, od11, .func (PySem.W.fnOf "_law_is" "_law_is" (defArgs s__law_is) (defBody s__law_is) (defScope s__law_is) .none kV11 dc11 pm11 an11 cd11 ct11), sl11⟩) (c11 : PySem.W.codeIn K cd11 "_law_is" = true) (k11 : PySem.W.keepIn K (.ref f11) = true)
    (a12 : PySem.W.nsIn K mainGlobals "_law_bent" = some (some (.ref f12))) (l12 : K.lookup f12 = some ⟨oc12, od12, .func (PySem.W.fnOf "_law_bent" "_law_bent" (defArgs s__law_bent) (defBody s__law_bent) (defScope s__law_bent) .none kV12 dc12 pm12 an12 cd12 ct12), sl12⟩) (c12 : PySem.W.codeIn K cd12 "_law_bent" = true) (k12 : PySem.W.keepIn K (.ref f12) = true)
    (a13 : PySem.W.nsIn K mainGlobals "_law_together" = some (some (.ref f13))) (l13 : K.lookup f13 = some ⟨oc13, od13, .func (PySem.W.fnOf "_law_together" "_law_together" (defArgs s__law_together) (defBody s__law_together) (defScope s__law_together) .none kV13 dc13 pm13 an13 cd13 ct13), sl13⟩) (c13 : PySem.W.codeIn K cd13 "_law_together" = true) (k13 : PySem.W.keepIn K (.ref f13) = true)
    (a14 : PySem.W.nsIn K mainGlobals "_law_hold" = some (some (.ref f14))) (l14 : K.lookup f14 = some ⟨oc14, od14, .func (PySem.W.fnOf "_law_hold" "_law_hold" (defArgs s__law_hold) (defBody s__law_hold) (defScope s__law_hold) .none kV14 dc14 pm14 an14 cd14 ct14), sl14⟩) (c14 : PySem.W.codeIn K cd14 "_law_hold" = true) (k14 : PySem.W.keepIn K (.ref f14) = true)
    (a15 : PySem.W.nsIn K mainGlobals "_law_least_turns" = some (some (.ref f15))) (l15 : K.lookup f15 = some ⟨oc15, od15, .func (PySem.W.fnOf "_law_least_turns" "_law_least_turns" (defArgs s__law_least_turns) (defBody s__law_least_turns) (defScope s__law_least_turns) .none kV15 dc15 pm15 an15 cd15 ct15), sl15⟩) (c15 : PySem.W.codeIn K cd15 "_law_least_turns" = true) (k15 : PySem.W.keepIn K (.ref f15) = true)
    (a16 : PySem.W.nsIn K mainGlobals "_law_splittings" = some (some (.ref f16))) (l16 : K.lookup f16 = some ⟨oc16, od16, .func (PySem.W.fnOf "_law_splittings" "_law_splittings" (defArgs s__law_splittings) (defBody s__law_splittings) (defScope s__law_splittings) .none kV16 dc16 pm16 an16 cd16 ct16), sl16⟩) (c16 : PySem.W.codeIn K cd16 "_law_splittings" = true) (k16 : PySem.W.keepIn K (.ref f16) = true)
    (a17 : PySem.W.nsIn K mainGlobals "_law_rift" = some (some (.ref f17))) (l17 : K.lookup f17 = some ⟨oc17, od17, .func (PySem.W.fnOf "_law_rift" "_law_rift" (defArgs s__law_rift) (defBody s__law_rift) (defScope s__law_rift) .none kV17 dc17 pm17 an17 cd17 ct17), sl17⟩) (c17 : PySem.W.codeIn K cd17 "_law_rift" = true) (k17 : PySem.W.keepIn K (.ref f17) = true)
    (a18 : PySem.W.nsIn K mainGlobals "_law_roads" = some (some (.ref f18))) (l18 : K.lookup f18 = some ⟨oc18, od18, .func (PySem.W.fnOf "_law_roads" "_law_roads" (defArgs s__law_roads) (defBody s__law_roads) (defScope s__law_roads) .none kV18 dc18 pm18 an18 cd18 ct18), sl18⟩) (c18 : PySem.W.codeIn K cd18 "_law_roads" = true) (k18 : PySem.W.keepIn K (.ref f18) = true)
    (a19 : PySem.W.nsIn K mainGlobals "law" = some (some (.ref f19))) (l19 : K.lookup f19 = some ⟨oc19, od19, .func (PySem.W.fnOf "law" "law" (defArgs s_law) (defBody s_law) (defScope s_law) .none kV19 dc19 pm19 an19 cd19 ct19), sl19⟩) (c19 : PySem.W.codeIn K cd19 "law" = true) (k19 : PySem.W.keepIn K (.ref f19) = true)
    (z0 : PySem.W.nsIn K mainGlobals "abs" = some none)
    (z1 : PySem.W.nsIn K mainGlobals "all" = some none)
    (z2 : PySem.W.nsIn K mainGlobals "bool" = some none)
    (z3 : PySem.W.nsIn K mainGlobals "enumerate" = some none)
    (z4 : PySem.W.nsIn K mainGlobals "int" = some none)
    (z5 : PySem.W.nsIn K mainGlobals "isinstance" = some none)
    (z6 : PySem.W.nsIn K mainGlobals "len" = some none)
    (z7 : PySem.W.nsIn K mainGlobals "max" = some none)
    (z8 : PySem.W.nsIn K mainGlobals "min" = some none)
    (z9 : PySem.W.nsIn K mainGlobals "range" = some none)
    (z10 : PySem.W.nsIn K mainGlobals "str" = some none)
    (z11 : PySem.W.nsIn K mainGlobals "tuple" = some none)
    (hnd : (([PP2, PP3] : List Addr) ++ (([] : List (Addr × Str)).map (·.1) ++ ([] : List Addr))).Nodup) :
    LamX.LawAtS l w K CX0 9 63 "script" mg fa h := by
  have t2 : PySem.W.tabIn K "do_turns_hold" = some (cc2, PP2) := tabIn_of a2 l2 rfl m2 p2
  have t3 : PySem.W.tabIn K "is_splitting" = some (cc3, PP3) := tabIn_of a3 l3 rfl m3 p3
  have e := hfa.symm.trans (PySem.W.mg_of X G a19)
  cases e
  have F0 := fun_mk (st := s_do_hold_together) l0 c0 k0
  have D0 : GDef K mg "do_hold_together" s_do_hold_together ["n", "roads"] := ⟨_, _, F0, (F0.binds (ps := ["n", "roads"]) (fun _ _ _ _ _ _ us hl => match us, hl with | [_, _], _ => rfl)), PySem.W.mg_of X G a0⟩
  have F1 := fun_mk (st := s_does_day_hold) l1 c1 k1
  have D1 : GDef K mg "does_day_hold" s_does_day_hold ["n", "roads", "turns", "day"] := ⟨_, _, F1, (F1.binds (ps := ["n", "roads", "turns", "day"]) (fun _ _ _ _ _ _ us hl => match us, hl with | [_, _, _, _], _ => rfl)), PySem.W.mg_of X G a1⟩
  have F2 := fun_mk (st := s_do_turns_hold) l2 c2 k2
  have F3 := fun_mk (st := s_is_splitting) l3 c3 k3
  have F4 := fun_mk (st := s_is_rift) l4 c4 k4
  have D4 : GDef K mg "is_rift" s_is_rift ["n", "roads", "k", "splitting"] := ⟨_, _, F4, (F4.binds (ps := ["n", "roads", "k", "splitting"]) (fun _ _ _ _ _ _ us hl => match us, hl with | [_, _, _, _], _ => rfl)), PySem.W.mg_of X G a4⟩
  have F5 := fun_mk (st := s_all_splittings) l5 c5 k5
  have D5 : GDef K mg "all_splittings" s_all_splittings ["n"] := ⟨_, _, F5, (F5.binds (ps := ["n"]) (fun _ _ _ _ _ _ us hl => match us, hl with | [_], _ => rfl)), PySem.W.mg_of X G a5⟩
  have F6 := fun_mk (st := s_told_rift) l6 c6 k6
  have D6 : GDef K mg "told_rift" s_told_rift ["n", "roads", "k"] := ⟨_, _, F6, (F6.binds (ps := ["n", "roads", "k"]) (fun _ _ _ _ _ _ us hl => match us, hl with | [_, _, _], _ => rfl)), PySem.W.mg_of X G a6⟩
  have F7 := fun_mk (st := s_told_turns) l7 c7 k7
  have D7 : GDef K mg "told_turns" s_told_turns ["n", "roads", "k"] := ⟨_, _, F7, (F7.binds (ps := ["n", "roads", "k"]) (fun _ _ _ _ _ _ us hl => match us, hl with | [_, _, _], _ => rfl)), PySem.W.mg_of X G a7⟩
  have F8 := fun_mk (st := s__law_cell) l8 c8 k8
  have D8 : GDef K mg "_law_cell" s__law_cell ["script", "k"] := ⟨_, _, F8, (F8.binds (ps := ["script", "k"]) (fun _ _ _ _ _ _ us hl => match us, hl with | [_, _], _ => rfl)), PySem.W.mg_of X G a8⟩
  have F9 := fun_mk (st := s__law_draws) l9 c9 k9
  have D9 : GDef K mg "_law_draws" s__law_draws ["cell", "count"] := ⟨_, _, F9, (F9.binds (ps := ["cell", "count"]) (fun _ _ _ _ _ _ us hl => match us, hl with | [_, _], _ => rfl)), PySem.W.mg_of X G a9⟩
  have F10 := fun_mk (st := s__law_is_integer) l10 c10 k10
  have D10 : GDef K mg "_law_is_integer" s__law_is_integer ["value"] := ⟨_, _, F10, (F10.binds (ps := ["value"]) (fun _ _ _ _ _ _ us hl => match us, hl with | [_], _ => rfl)), PySem.W.mg_of X G a10⟩
  have F11 := fun_mk (st := s__law_is) l11 c11 k11
  have D11 : GDef K mg "_law_is" s__law_is ["value", "due"] := ⟨_, _, F11, (F11.binds (ps := ["value", "due"]) (fun _ _ _ _ _ _ us hl => match us, hl with | [_, _], _ => rfl)), PySem.W.mg_of X G a11⟩
  have F12 := fun_mk (st := s__law_bent) l12 c12 k12
  have D12 : GDef K mg "_law_bent" s__law_bent ["row", "draws", "most"] := ⟨_, _, F12, (F12.binds (ps := ["row", "draws", "most"]) (fun _ _ _ _ _ _ us hl => match us, hl with | [_, _, _], _ => rfl)), PySem.W.mg_of X G a12⟩
  have F13 := fun_mk (st := s__law_together) l13 c13 k13
  have D13 : GDef K mg "_law_together" s__law_together ["n", "roads"] := ⟨_, _, F13, (F13.binds (ps := ["n", "roads"]) (fun _ _ _ _ _ _ us hl => match us, hl with | [_, _], _ => rfl)), PySem.W.mg_of X G a13⟩
  have F14 := fun_mk (st := s__law_hold) l14 c14 k14
  have D14 : GDef K mg "_law_hold" s__law_hold ["n", "roads", "k", "turns"] := ⟨_, _, F14, (F14.binds (ps := ["n", "roads", "k", "turns"]) (fun _ _ _ _ _ _ us hl => match us, hl with | [_, _, _, _], _ => rfl)), PySem.W.mg_of X G a14⟩
  have F15 := fun_mk (st := s__law_least_turns) l15 c15 k15
  have D15 : GDef K mg "_law_least_turns" s__law_least_turns ["n", "roads", "k"] := ⟨_, _, F15, (F15.binds (ps := ["n", "roads", "k"]) (fun _ _ _ _ _ _ us hl => match us, hl with | [_, _, _], _ => rfl)), PySem.W.mg_of X G a15⟩
  have F16 := fun_mk (st := s__law_splittings) l16 c16 k16
  have D16 : GDef K mg "_law_splittings" s__law_splittings ["n"] := ⟨_, _, F16, (F16.binds (ps := ["n"]) (fun _ _ _ _ _ _ us hl => match us, hl with | [_], _ => rfl)), PySem.W.mg_of X G a16⟩
  have F17 := fun_mk (st := s__law_rift) l17 c17 k17
  have D17 : GDef K mg "_law_rift" s__law_rift ["every", "roads", "k", "splitting"] := ⟨_, _, F17, (F17.binds (ps := ["every", "roads", "k", "splitting"]) (fun _ _ _ _ _ _ us hl => match us, hl with | [_, _, _, _], _ => rfl)), PySem.W.mg_of X G a17⟩
  have F18 := fun_mk (st := s__law_roads) l18 c18 k18
  have D18 : GDef K mg "_law_roads" s__law_roads ["draws", "n", "trees"] := ⟨_, _, F18, (F18.binds (ps := ["draws", "n", "trees"]) (fun _ _ _ _ _ _ us hl => match us, hl with | [_, _, _], _ => rfl)), PySem.W.mg_of X G a18⟩
  have F19 := fun_mk (st := s_law) l19 c19 k19
  have D19 : GDef K mg "law" s_law ["script"] := ⟨_, _, F19, (F19.binds (ps := ["script"]) (fun _ _ _ _ _ _ us hl => match us, hl with | [_], _ => rfl)), PySem.W.mg_of X G a19⟩
  refine ⟨PySem.W.fnOf "law" "law" (defArgs s_law) (defBody s_law) (defScope s_law) .none kV19 dc19 pm19 an19 cd19 ct19, [(cc2, PP2), (cc3, PP3)], spR K (tbsOf [PP2, PP3] [] [] hnd) 1 R_law, (List.forall_mem_cons.mpr ⟨(hT _ _ _ _ r2 t2).2, (List.forall_mem_cons.mpr ⟨(hT _ _ _ _ r3 t3).2, (fun _ h => nomatch h)⟩)⟩), (List.forall_mem_cons.mpr ⟨n2, (List.forall_mem_cons.mpr ⟨n3, (fun _ h => nomatch h)⟩)⟩), (List.forall_mem_cons.mpr ⟨(hT _ _ _ _ r2 t2).1, (List.forall_mem_cons.mpr ⟨(hT _ _ _ _ r3 t3).1, (fun _ h => nomatch h)⟩)⟩), fun s v => .of_eq rfl, fun H a ns hl _ hH hS => sp_startT hH rfl hS ⟨ns, true, rfl, law_true ns hl, rfl⟩, fun base _ _ TB => ?_⟩
  have D2 : GDefT K mg base (tbsOf [PP2, PP3] [] [] hnd) "do_turns_hold" s_do_turns_hold ["n", "roads", "k", "turns"] := ⟨cc2, PP2, _, _, ⟨⟨_, _, _, _, _, _, _, _, rfl, l2, c2⟩, k2⟩, (F2.binds (ps := ["n", "roads", "k", "turns"]) (fun _ _ _ _ _ _ us hl => match us, hl with | [_, _, _, _], _ => rfl)), PySem.W.mg_of X G a2, by simp [tbsOf], (fun t => ⟨t.code, t.bm, t.gP⟩) (TB (cc2, PP2) (by simp))⟩
  have D3 : GDefT K mg base (tbsOf [PP2, PP3] [] [] hnd) "is_splitting" s_is_splitting ["n", "splitting"] := ⟨cc3, PP3, _, _, ⟨⟨_, _, _, _, _, _, _, _, rfl, l3, c3⟩, k3⟩, (F3.binds (ps := ["n", "splitting"]) (fun _ _ _ _ _ _ us hl => match us, hl with | [_, _], _ => rfl)), PySem.W.mg_of X G a3, by simp [tbsOf], (fun t => ⟨t.code, t.bm, t.gP⟩) (TB (cc3, PP3) (by simp))⟩
  exact ok_law_fn ⟨PySem.W.mg_none_of X G z0, PySem.W.mg_none_of X G z1, PySem.W.mg_none_of X G z2, PySem.W.mg_none_of X G z3, PySem.W.mg_none_of X G z4, PySem.W.mg_none_of X G z5, PySem.W.mg_none_of X G z6, PySem.W.mg_none_of X G z7, PySem.W.mg_none_of X G z8, PySem.W.mg_none_of X G z9, PySem.W.mg_none_of X G z10, PySem.W.mg_none_of X G z11, D0, D1, D2, D3, D4, D5, D6, D7, D8, D9, D10, D11, D12, D13, D14, D15, D16, D17, D18, D19⟩ F19
end K74
open PySem PySem.W PyProof.Rows
set_option maxHeartbeats 0 in
theorem PySem.Challenge.cw_slopeward_k74_whole_roads_shut_in_turns_holds : PySem.Challenge.rw_slopeward_k74_whole_roads_shut_in_turns.Holds := by
  w_on; o_law; k_head; (case hw => w_witness2)
  k_fill
  refine SM.walk_ofG (l := PySem.Challenge.rw_slopeward_k74_whole_roads_shut_in_turns) (n := 63) (k := 9) (x := "script") (CX := fun _ => L2.CX0) rfl (by decide) rfl ⟨rfl, by decide, by decide⟩ (fun w h Y => by first | exact PySem.W.kIn_of Y | exact PySem.W.km_in_of Y) ?F (fun _ _ _ _ _ h => h)
  case F =>
    intro w mg fa h hT KX G hmg
    refine' K74.all_mk hT KX G hmg ?a0 ?l0 ?c0 ?k0 ?a1 ?l1 ?c1 ?k1 ?a2 ?l2 ?c2 ?k2 ?r2 ?m2 ?p2 ?n2 ?a3 ?l3 ?c3 ?k3 ?r3 ?m3 ?p3 ?n3 ?a4 ?l4 ?c4 ?k4 ?a5 ?l5 ?c5 ?k5 ?a6 ?l6 ?c6 ?k6 ?a7 ?l7 ?c7 ?k7 ?a8 ?l8 ?c8 ?k8 ?a9 ?l9 ?c9 ?k9 ?a10 ?l10 ?c10 ?k10 ?a11 ?l11 ?c11 ?k11 ?a12 ?l12 ?c12 ?k12 ?a13 ?l13 ?c13 ?k13 ?a14 ?l14 ?c14 ?k14 ?a15 ?l15 ?c15 ?k15 ?a16 ?l16 ?c16 ?k16 ?a17 ?l17 ?c17 ?k17 ?a18 ?l18 ?c18 ?k18 ?a19 ?l19 ?c19 ?k19 ?z0 ?z1 ?z2 ?z3 ?z4 ?z5 ?z6 ?z7 ?z8 ?z9 ?z10 ?z11 ?hnd
    (case a0 => k_is)
    (case l0 => k_is)
    (case c0 => k_is)
    (case k0 => k_is)
    (case a1 => k_is)
    (case l1 => k_is)
    (case c1 => k_is)
    (case k1 => k_is)
    (case a2 => k_is)
    (case l2 => k_is)
    (case c2 => k_is)
    (case k2 => k_is)
    (case r2 => rfl)
    (case m2 => k_is)
    (case p2 => rfl)
    (case n2 => first | kernel_rfl | rfl)
    (case a3 => k_is)
    (case l3 => k_is)
    (case c3 => k_is)
    (case k3 => k_is)
    (case r3 => rfl)
    (case m3 => k_is)
    (case p3 => rfl)
    (case n3 => first | kernel_rfl | rfl)
    (case a4 => k_is)
    (case l4 => k_is)
    (case c4 => k_is)
    (case k4 => k_is)
    (case a5 => k_is)
    (case l5 => k_is)
    (case c5 => k_is)
    (case k5 => k_is)
    (case a6 => k_is)
    (case l6 => k_is)
    (case c6 => k_is)
    (case k6 => k_is)
    (case a7 => k_is)
    (case l7 => k_is)
    (case c7 => k_is)
    (case k7 => k_is)
    (case a8 => k_is)
    (case l8 => k_is)
    (case c8 => k_is)
    (case k8 => k_is)
    (case a9 => k_is)
    (case l9 => k_is)
    (case c9 => k_is)
    (case k9 => k_is)
    (case a10 => k_is)
    (case l10 => k_is)
    (case c10 => k_is)
    (case k10 => k_is)
    (case a11 => k_is)
    (case l11 => k_is)
    (case c11 => k_is)
    (case k11 => k_is)
    (case a12 => k_is)
    (case l12 => k_is)
    (case c12 => k_is)
    (case k12 => k_is)
    (case a13 => k_is)
    (case l13 => k_is)
    (case c13 => k_is)
    (case k13 => k_is)
    (case a14 => k_is)
    (case l14 => k_is)
    (case c14 => k_is)
    (case k14 => k_is)
    (case a15 => k_is)
    (case l15 => k_is)
    (case c15 => k_is)
    (case k15 => k_is)
    (case a16 => k_is)
    (case l16 => k_is)
    (case c16 => k_is)
    (case k16 => k_is)
    (case a17 => k_is)
    (case l17 => k_is)
    (case c17 => k_is)
    (case k17 => k_is)
    (case a18 => k_is)
    (case l18 => k_is)
    (case c18 => k_is)
    (case k18 => k_is)
    (case a19 => k_is)
    (case l19 => k_is)
    (case c19 => k_is)
    (case k19 => k_is)
    (case z0 => k_is)
    (case z1 => k_is)
    (case z2 => k_is)
    (case z3 => k_is)
    (case z4 => k_is)
    (case z5 => k_is)
    (case z6 => k_is)
    (case z7 => k_is)
    (case z8 => k_is)
    (case z9 => k_is)
    (case z10 => k_is)
    (case z11 => k_is)
    (case hnd => decide)
