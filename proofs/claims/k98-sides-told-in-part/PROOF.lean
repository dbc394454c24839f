import PyProof.Rows.All
import Wide.All
import OpenK.AllK
import Wide.FinOn
import KE.KStateDown
import HandS.ForMost
import HandS.Lambda
import HandS.NestedK
import HandS.ExcInit
import HandS.ExcField
import KE.KExcSuper
import HandS.Defaults
import HandS.Star
import HandS.TupAny
import HandS.Style
import HandS.Zip
import HandS.IsInst
import HandS.IterVal
import HandS.Exc
import HandS.ForExc
import HandS.Flow
import HandS.Deep
import HandS.TupLe
import HandS.TupLen
import PyProof.P3In
import KE.GoesMore
import HandS.Walk
import HandS.Sort
import HandS.Conv
import KE.SortData
import KE.DataMinMax
import KE.DataAny
import KE.KTupSum
import KE.DataEq
import HandS.WordsDict
import HandS.Text
import HandS.Codes
import HandS.Comp
import HandS.List
import HandS.Dict
import HandS.DictComp
import HandS.More
import PyProof.PassesOwn
import HandS.TupSets
import KE.GoesZip
import KE.KDictZip
import KE.KDictList
import HandS.DictTup
import KE.KDictCopyH
import HandS.EndTab
import PyProof.ReprRoads
import HandS.HeadHook4
import HandS.Head0
import HandS.Head1
import HandS.Head2
import HandS.HeadEnd
import HandS.HeadHook1
import HandS.HeadHook2
import KE.KDictDisplayH
import PySem.Challenge.RW_clubroom_k98_whole_sides_told_in_part
set_option Elab.async false
set_option linter.all false
set_option maxRecDepth 100000
set_option maxHeartbeats 1000000
namespace PW
open PySem PySem.Spec PyProof.Rows L2
abbrev Sg := L2.St

/-! ### plain data, predicate transformers -/
inductive D where
  | non | bl (b : Bool) | int (i : Int) | str (x : Str) | ty (n : String)
  | tup (xs : List D) | lst (xs : List D) | dK (kvs : List (Key × D)) | dT (kvs : List (List Key × D)) | rng (lo hi : Int)
  | fn (x : Str) | bag | scr

structure W (α : Type) where
  run : (α → Prop) → Prop
  mono : ∀ {P Q : α → Prop}, (∀ a, P a → Q a) → run P → run Q
namespace W
variable {α β : Type}
def pure (a : α) : W α := ⟨fun Q => Q a, fun h x => h _ x⟩
def bind (x : W α) (f : α → W β) : W β := ⟨fun Q => x.run fun a => (f a).run Q, fun h => x.mono fun a => (f a).mono h⟩
def fail : W α := ⟨fun _ => False, fun _ x => x⟩
def need (p : Prop) : W Unit := ⟨fun Q => p ∧ Q (), fun h x => ⟨x.1, h _ x.2⟩⟩
def some? : Option α → W α
  | some a => pure a
  | none => fail
/-- for some of these -/
def ex {ι : Type} (f : ι → W α) : W α := ⟨fun Q => ∃ i, (f i).run Q, fun h ⟨i, x⟩ => ⟨i, (f i).mono h x⟩⟩
/-- for all of these -/
def fa {ι : Type} (p : ι → Prop) (f : ι → α) : W α := ⟨fun Q => ∀ i, p i → Q (f i), fun h x i hi => h _ (x i hi)⟩
theorem run_pure (a : α) (Q : α → Prop) : (pure a).run Q = Q a := rfl
theorem run_bind (x : W α) (f : α → W β) (Q : β → Prop) : (bind x f).run Q = x.run fun a => (f a).run Q := rfl
theorem run_fail (Q : α → Prop) : (fail : W α).run Q = False := rfl
theorem run_need (p : Prop) (Q : Unit → Prop) : (need p).run Q = (p ∧ Q ()) := rfl
theorem run_some (a : α) (Q : α → Prop) : (some? (some a)).run Q = Q a := rfl
theorem run_none (Q : α → Prop) : (some? none).run Q = False := rfl
end W
abbrev Env := List (Option D)
inductive Out where
  | nx (ρ : Env) | rt (d : D) | bk (ρ : Env) | ct (ρ : Env)

/-! ### values and data -/
/-- f: what is known for ever; bg: the bags of draws; tb: the tables of code objects, with the name of their codes -/
structure Z where
  f : Hp
  bg : Addr → Addr → Prop
  tb : List (Addr × Str)
/-- what may change -/
def Z.β (z : Z) (a : Addr) : Prop := (∃ c, z.bg a c) ∨ ∃ q, (a, q) ∈ z.tb
def keyD : Key → D
  | .inl i => .int i
  | .inr x => .str x
mutual
inductive Rp (K : PySem.W.Frag) (mg : Str → Option Value) (z : Z) : V → D → Prop
  | non : Rp K mg z .non .non
  | bl (b : Bool) : Rp K mg z (.bl b) (.bl b)
  | int (i : Int) : Rp K mg z (.int i) (.int i)
  | str (x : Str) : Rp K mg z (.str x) (.str x)
  | ty (n : String) : Rp K mg z (.ty n) (.ty n)
  | tup {a : Addr} {vs : List V} {ds : List D} : z.f a = some (.tup vs) → RpL K mg z vs ds → Rp K mg z (.ref a) (.tup ds)
  | lst {a : Addr} {vs : List V} {ds : List D} : z.f a = some (.lst vs) → RpL K mg z vs ds → Rp K mg z (.ref a) (.lst ds)
  | dK {a : Addr} {kvs : List (Key × V)} {ds : List (Key × D)} : z.f a = some (.dK kvs) → RpK K mg z kvs ds → Rp K mg z (.ref a) (.dK ds)
  | dT {a : Addr} {kvs : List (List Key × V)} {ds : List (List Key × D)} : z.f a = some (.dT kvs) → RpT K mg z kvs ds → Rp K mg z (.ref a) (.dT ds)
  | rng {a : Addr} {lo hi : Int} : z.f a = some (.rng lo hi) → Rp K mg z (.ref a) (.rng lo hi)
  | fn {x : Str} {a : Addr} : mg x = some (.ref a) → PySem.W.keepIn K (.ref a) = true → Rp K mg z (.ref a) (.fn x)
  | bag {a c : Addr} : z.bg a c → Rp K mg z (.ref a) .bag
  | scr {a : Addr} {ns : List Int} : ns.length ≤ 63 → SqL K z.f a (ns.map V.int) → Rp K mg z (.ref a) .scr
inductive RpL (K : PySem.W.Frag) (mg : Str → Option Value) (z : Z) : List V → List D → Prop
  | nil : RpL K mg z [] []
  | cons {v : V} {vs : List V} {d : D} {ds : List D} : Rp K mg z v d → RpL K mg z vs ds → RpL K mg z (v :: vs) (d :: ds)
inductive RpK (K : PySem.W.Frag) (mg : Str → Option Value) (z : Z) : List (Key × V) → List (Key × D) → Prop
  | nil : RpK K mg z [] []
  | cons {k : Key} {v : V} {vs : List (Key × V)} {d : D} {ds : List (Key × D)} : Rp K mg z v d → RpK K mg z vs ds → RpK K mg z ((k, v) :: vs) ((k, d) :: ds)
inductive RpT (K : PySem.W.Frag) (mg : Str → Option Value) (z : Z) : List (List Key × V) → List (List Key × D) → Prop
  | nil : RpT K mg z [] []
  | cons {k : List Key} {v : V} {vs : List (List Key × V)} {d : D} {ds : List (List Key × D)} : Rp K mg z v d → RpT K mg z vs ds → RpT K mg z ((k, v) :: vs) ((k, d) :: ds)
end

/-! ### heaps -/
theorem Same.seqT {K : PySem.W.Frag} {H H' : Hp} {a : Addr} {xs : List V} (e : Same H H') (h : SqT K H a xs) : SqT K H' a xs := by
  rcases h with (h | ⟨o, h⟩) | h
  · exact .inl (.inl (e _ _ h))
  · exact .inl (.inr ⟨o, e _ _ h⟩)
  · exact .inr h
theorem Same.put {H : Hp} {p : Addr} {o : HO} (h : H p = none) : Same H (upd H p o) := fun b x e => by
  rw [upd_ne (ne_of_none e h)]
  exact e
/-- the lists and tuples that are read have their size -/
structure Fct (K : PySem.W.Frag) (H : Hp) : Prop where
  l : ∀ a xs, SqL K H a xs → xs.length ≤ sizeLine
  t : ∀ a xs, SqT K H a xs → xs.length ≤ sizeLine
theorem fct_of {X : Cx} {pins : List (Addr × Obj)} {σ : Sg} {H : Hp} {s : Shared} (I : Inv X pins σ H s) : Fct X.K H :=
  ⟨fun a xs h => (I.list h).choose_spec.2.2, fun a xs h => (I.tuple h).choose_spec.2.2⟩
/-- the bag of draws -/
def BagSh (z : Z) (H : Hp) (a c : Addr) : Prop :=
  ∃ (b0 b1 b2 : Int) (cs : List Int), H a = some (.lst [.int b0, .int b1, .int b2, .ref c]) ∧ z.f c = some (.lst (cs.map V.int)) ∧ 0 ≤ b0 ∧ (0 ≤ b1 ∧ b1 < 2147483648) ∧ 0 ≤ b2 ∧ (∀ x ∈ cs, (0 : Int) ≤ x) ∧ cs.length ≤ 63
/-- a table of code objects: all known -/
def TabSh (z : Z) (H : Hp) (a : Addr) (q : Str) : Prop :=
  ∃ ps : Array Value, H a = some (.tbl ps) ∧ TriplesOk ps.toList ∧ ∀ (pos : Pos) (cv : Value), codeAmong pos ps.toList = some cv → ∃ c, cv = .ref c ∧ z.f c = some (LamX.CodeO c q)
def BagAt (K : PySem.W.Frag) (z : Z) (H : Hp) : Prop := ∀ a, z.β a → z.f a = none ∧ (∀ c, z.bg a c → BagSh z H a c) ∧ (∀ q, (a, q) ∈ z.tb → TabSh z H a q)
theorem BagAt.bag {K : PySem.W.Frag} {z : Z} {H : Hp} (h : BagAt K z H) {a c : Addr} (e : z.bg a c) : z.f a = none ∧ BagSh z H a c := ⟨(h a (.inl ⟨c, e⟩)).1, (h a (.inl ⟨c, e⟩)).2.1 c e⟩
theorem BagAt.tab {K : PySem.W.Frag} {z : Z} {H : Hp} (h : BagAt K z H) {a : Addr} {q : Str} (e : (a, q) ∈ z.tb) : TabSh z H a q := (h a (.inr ⟨q, e⟩)).2.2 q e
theorem BagAt.there {K : PySem.W.Frag} {z : Z} {H : Hp} (h : BagAt K z H) {a : Addr} (e : z.β a) : H a ≠ none := by
  rcases e with ⟨_, e⟩ | ⟨_, e⟩
  · obtain ⟨_, _, _, _, _, q, _⟩ := h.bag e
    rw [q]; exact fun z => nomatch z
  · obtain ⟨_, q, _⟩ := h.tab e
    rw [q]; exact fun z => nomatch z
structure Z.le (z z' : Z) : Prop where
  f : Same z.f z'.f
  bg : ∀ a c, z.bg a c → z'.bg a c
  tb : z'.tb = z.tb
theorem Z.le.refl (z : Z) : Z.le z z := ⟨Same.refl _, fun _ _ h => h, rfl⟩
theorem Z.le.trans {z1 z2 z3 : Z} (a : Z.le z1 z2) (b : Z.le z2 z3) : Z.le z1 z3 := ⟨a.f.trans b.f, fun x c h => b.bg x c (a.bg x c h), b.tb.trans a.tb⟩
theorem Z.le.β {z z' : Z} (l : Z.le z z') (a : Addr) : z.β a → z'.β a
  | .inl ⟨c, h⟩ => .inl ⟨c, l.bg a c h⟩
  | .inr h => .inr (by rw [l.tb]; exact h)
/-- no table of code objects -/
def _root_.L2.HO.nb : HO → Prop
  | .tbl _ => False
  | _ => True
structure ZOk (K : PySem.W.Frag) (z : Z) (H : Hp) : Prop where
  sub : Same z.f H
  bag : BagAt K z H
  nb : ∀ b o, z.f b = some o → o.nb
/-- no tuple, no table -/
def _root_.L2.HO.nt : HO → Prop
  | .tup _ => False
  | .ext _ => False
  | .tbl _ => False
  | _ => True
theorem _root_.L2.HO.nt.nb : {o : HO} → o.nt → o.nb
  | .tbl _, h => h.elim
  | .lst _, _ | .dK _, _ | .dT _, _ | .tup _, h | .ext _, h => trivial
  | o, h => by cases o <;> first | trivial | exact h.elim
/-- nothing there, or a table -/
def fr (H : Hp) (p : Addr) : Prop := ∀ o, H p = some o → ¬ o.nb
theorem fr_of {H : Hp} {p : Addr} (h : H p = none) : fr H p := fun o e => by rw [h] at e; cases e
theorem ne_of_fr {H : Hp} {b p : Addr} {o : HO} (e : H b = some o) (n : o.nb) (h : fr H p) : b ≠ p := fun q => by subst q; exact h o e n
structure Step (K : PySem.W.Frag) (z : Z) (H : Hp) (z' : Z) (H' : Hp) : Prop where
  le : Z.le z z'
  ok : ZOk K z' H'
  keep : ∀ b o, ¬ z.β b → H b = some o → o.nb → H' b = some o
  new : ∀ b o, z.f b = none → H b = some o → o.nt → z'.f b = none
  βn : ∀ b, z'.β b → z.β b ∨ fr H b
theorem Step.refl {K : PySem.W.Frag} {z : Z} {H : Hp} (h : ZOk K z H) : Step K z H z H := ⟨Z.le.refl z, h, fun _ _ _ h _ => h, fun _ _ h _ _ => h, fun _ h => .inl h⟩
theorem Step.trans {K : PySem.W.Frag} {z1 z2 z3 : Z} {H1 H2 H3 : Hp} (a : Step K z1 H1 z2 H2) (b : Step K z2 H2 z3 H3) : Step K z1 H1 z3 H3 := by
  have nb : ∀ x o, ¬ z1.β x → H1 x = some o → o.nb → ¬ z2.β x := fun x o h1 h2 h3 e => by
    rcases a.βn x e with e | e
    · exact h1 e
    · exact e o h2 h3
  refine ⟨a.le.trans b.le, b.ok, fun x o h1 h2 h3 => b.keep x o (nb x o h1 h2 h3) (a.keep x o h1 h2 h3) h3, fun x o h1 h2 h3 => ?_, fun x e => ?_⟩
  · by_cases hb : z1.β x
    · exact (b.ok.bag x (b.le.β x (a.le.β x hb))).1
    · exact b.new x o (a.new x o h1 h2 h3) (a.keep x o hb h2 h3.nb) h3
  rcases b.βn x e with e | e
  · exact a.βn x e
  · by_cases hb : z1.β x
    · exact .inl hb
    · exact .inr fun o h2 h3 => e o (a.keep x o hb h2 h3) h3
theorem Step.was' {K : PySem.W.Frag} {z z' : Z} {H H' : Hp} {p : Addr} (s : Step K z H z' H') (hβ : ¬ z'.β p) (hp : fr H' p) : fr H p := fun o q n => hp o (s.keep p o (fun h => hβ (s.le.β p h)) q n) n
theorem Step.was {K : PySem.W.Frag} {z z' : Z} {H H' : Hp} {p : Addr} (s : Step K z H z' H') (hp : H' p = none) : fr H p := s.was' (fun e => s.ok.bag.there e hp) (fr_of hp)
/-- a new object that is known from then on -/
def Z.put (z : Z) (p : Addr) (o : HO) : Z := ⟨upd z.f p o, z.bg, z.tb⟩
section
variable {K : PySem.W.Frag} {z z' : Z} {H H' : Hp} {p : Addr} {o : HO}
theorem ZOk.free (h : ZOk K z H) (hp : H p = none) : z.f p = none := h.sub.free hp
theorem ZOk.nβ (h : ZOk K z H) (hp : H p = none) : ¬ z.β p := fun e => h.bag.there e hp
theorem BagSh.le {a c : Addr} (l : Same z.f z'.f) (e : ∀ o, H a = some o → H' a = some o) : BagSh z H a c → BagSh z' H' a c
  | ⟨b0, b1, b2, cs, h1, h2, h3⟩ => ⟨b0, b1, b2, cs, e _ h1, l _ _ h2, h3⟩
theorem TabSh.le {a : Addr} {q : Str} (l : Same z.f z'.f) (e : ∀ o, H a = some o → H' a = some o) : TabSh z H a q → TabSh z' H' a q
  | ⟨ps, h1, h2, h3⟩ => ⟨ps, e _ h1, h2, fun pos cv h => let ⟨c, e1, e2⟩ := h3 pos cv h; ⟨c, e1, l _ _ e2⟩⟩
theorem BagAt.keep (h : BagAt K z H) (le : Same z.f z'.f) (eβ : z'.bg = z.bg ∧ z'.tb = z.tb) (hf : ∀ a, z.β a → z'.f a = none) (hk : ∀ a o, z.β a → H a = some o → H' a = some o) : BagAt K z' H' := fun a e => by
  have e : z.β a := by
    unfold Z.β at e ⊢
    rw [eβ.1, eβ.2] at e
    exact e
  rw [eβ.1, eβ.2]
  obtain ⟨f0, h1, h2⟩ := h a e
  exact ⟨hf a e, fun c x => (h1 c x).le le fun o => hk a o e, fun q x => (h2 q x).le le fun o => hk a o e⟩
theorem ZOk.fresh (h : ZOk K z H) (hp : H p = none) : ZOk K z (upd H p o) :=
  ⟨h.sub.trans (Same.put hp), h.bag.keep (Same.refl _) ⟨rfl, rfl⟩ (fun a e => (h.bag a e).1) fun a o' e q => Same.put hp a o' q, h.nb⟩
theorem Step.fresh (h : ZOk K z H) (hp : H p = none) : Step K z H z (upd H p o) :=
  ⟨Z.le.refl z, h.fresh hp, fun b o' _ e _ => Same.put hp b o' e, fun b _ e _ _ => e, fun b e => .inl e⟩
theorem put_nb {z : Z} {p : Addr} {o : HO} (h : ∀ b o, z.f b = some o → o.nb) (ho : o.nb) : ∀ b o', (z.put p o).f b = some o' → o'.nb := fun b o' e => by
  have e : upd z.f p o b = some o' := e
  by_cases hb : b = p
  · subst hb
    rw [upd_same] at e
    cases e
    exact ho
  · rw [upd_ne hb] at e
    exact h b o' e
theorem Step.put (h : ZOk K z H) (hp : H p = none) (ho : o.nb) : Step K z H (z.put p o) (upd H p o) := by
  have hz := h.free hp
  refine ⟨⟨Same.put hz, fun _ _ e => e, rfl⟩, ⟨fun b x e => ?_, h.bag.keep (Same.put hz) ⟨rfl, rfl⟩ (fun a e => ?_) fun a o' e q => Same.put hp a o' q, put_nb h.nb ho⟩, fun b o' _ e _ => Same.put hp b o' e, fun b o' e q _ => ?_, fun b e => .inl e⟩
  · by_cases hb : b = p
    · subst hb
      have e : upd z.f b o b = some x := e
      rw [upd_same] at e ⊢
      exact e
    · have e : upd z.f p o b = some x := e
      rw [upd_ne hb] at e ⊢
      exact h.sub b x e
  · show upd z.f p o a = none
    rw [upd_ne (by intro q; exact h.nβ hp (by rw [← q]; exact e))]
    exact (h.bag a e).1
  · show upd z.f p o b = none
    rw [upd_ne (fun x => by rw [x, hp] at q; cases q)]
    exact e
/-- what was owned is known from now on -/
theorem ZOk.freeze (h : ZOk K z H) (hp : z.f p = none) (hβ : ¬ z.β p) (ho : H p = some o) (hnb : o.nb) : ZOk K (z.put p o) H := by
  refine ⟨fun b x e => ?_, h.bag.keep (Same.put hp) ⟨rfl, rfl⟩ (fun a e => ?_) fun a o' e q => q, put_nb h.nb hnb⟩
  · by_cases hb : b = p
    · subst hb
      have e : upd z.f b o b = some x := e
      rw [upd_same] at e
      rw [ho, e]
    · have e : upd z.f p o b = some x := e
      rw [upd_ne hb] at e
      exact h.sub b x e
  · show upd z.f p o a = none
    rw [upd_ne (by intro q; exact hβ (by rw [← q]; exact e))]
    exact (h.bag a e).1
theorem Z.le_put (hp : z.f p = none) : Z.le z (z.put p o) := ⟨Same.put hp, fun _ _ e => e, rfl⟩
theorem Z.put_at : (z.put p o).f p = some o := upd_same
end

/-! ### Rp grows with the world -/
section
variable {K : PySem.W.Frag} {mg : Str → Option Value} {z z' : Z}
mutual
theorem Rp.le (l : Z.le z z') : ∀ {v : V} {d : D}, Rp K mg z v d → Rp K mg z' v d
  | _, _, .non => .non
  | _, _, .bl b => .bl b
  | _, _, .int b => .int b
  | _, _, .str b => .str b
  | _, _, .ty b => .ty b
  | _, _, .tup h r => .tup (l.f _ _ h) (RpL.le l r)
  | _, _, .lst h r => .lst (l.f _ _ h) (RpL.le l r)
  | _, _, .dK h r => .dK (l.f _ _ h) (RpK.le l r)
  | _, _, .dT h r => .dT (l.f _ _ h) (RpT.le l r)
  | _, _, .rng h => .rng (l.f _ _ h)
  | _, _, .fn h k => .fn h k
  | _, _, .bag h => .bag (l.bg _ _ h)
  | _, _, .scr n h => .scr n (l.f.seq h)
theorem RpL.le (l : Z.le z z') : ∀ {v : List V} {d : List D}, RpL K mg z v d → RpL K mg z' v d
  | _, _, .nil => .nil
  | _, _, .cons h r => .cons (Rp.le l h) (RpL.le l r)
theorem RpK.le (l : Z.le z z') : ∀ {v : List (Key × V)} {d : List (Key × D)}, RpK K mg z v d → RpK K mg z' v d
  | _, _, .nil => .nil
  | _, _, .cons h r => .cons (Rp.le l h) (RpK.le l r)
theorem RpT.le (l : Z.le z z') : ∀ {v : List (List Key × V)} {d : List (List Key × D)}, RpT K mg z v d → RpT K mg z' v d
  | _, _, .nil => .nil
  | _, _, .cons h r => .cons (Rp.le l h) (RpT.le l r)
end
theorem RpL.length : ∀ {v : List V} {d : List D}, RpL K mg z v d → v.length = d.length
  | _, _, .nil => rfl
  | _, _, .cons _ r => by rw [List.length_cons, List.length_cons, RpL.length r]
theorem RpL.get : ∀ {v : List V} {d : List D} {i : Nat} {x : D}, RpL K mg z v d → d[i]? = some x → ∃ y, v[i]? = some y ∧ Rp K mg z y x
  | _, _, _, _, .nil, e => by simp at e
  | _, _, 0, _, .cons h _, e => by simp at e; subst e; exact ⟨_, rfl, h⟩
  | _, _, i + 1, _, .cons _ r, e => by simpa using RpL.get (i := i) r (by simpa using e)
theorem RpL.getV : ∀ {v : List V} {d : List D} {i : Nat} {y : V}, RpL K mg z v d → v[i]? = some y → ∃ x, d[i]? = some x ∧ Rp K mg z y x
  | _, _, _, _, .nil, e => by simp at e
  | _, _, 0, _, .cons h _, e => by simp at e; subst e; exact ⟨_, rfl, h⟩
  | _, _, i + 1, _, .cons _ r, e => by simpa using RpL.getV (i := i) r (by simpa using e)
theorem RpL.append : ∀ {v w : List V} {d e : List D}, RpL K mg z v d → RpL K mg z w e → RpL K mg z (v ++ w) (d ++ e)
  | _, _, _, _, .nil, s => s
  | _, _, _, _, .cons h r, s => .cons h (RpL.append r s)
theorem RpL.take : ∀ {v : List V} {d : List D} (n : Nat), RpL K mg z v d → RpL K mg z (v.take n) (d.take n)
  | _, _, 0, _ => .nil
  | _, _, _ + 1, .nil => .nil
  | _, _, n + 1, .cons h r => .cons h (RpL.take n r)
theorem RpL.drop : ∀ {v : List V} {d : List D} (n : Nat), RpL K mg z v d → RpL K mg z (v.drop n) (d.drop n)
  | _, _, 0, r => r
  | _, _, _ + 1, .nil => .nil
  | _, _, n + 1, .cons _ r => RpL.drop n r
theorem RpL.reverse : ∀ {v : List V} {d : List D}, RpL K mg z v d → RpL K mg z v.reverse d.reverse
  | _, _, .nil => .nil
  | _, _, .cons h r => by rw [List.reverse_cons, List.reverse_cons]; exact (RpL.reverse r).append (.cons h .nil)
theorem RpL.nil_of {v : List V} (h : RpL K mg z v []) : v = [] := by cases h; rfl
end

/-! ### the content of an object; owned and read -/
/-- what an object holds, its parts known -/
inductive Cont (K : PySem.W.Frag) (mg : Str → Option Value) (z : Z) : HO → D → Prop
  | lst {vs : List V} {ds : List D} : RpL K mg z vs ds → Cont K mg z (.lst vs) (.lst ds)
  | dK {kvs : List (Key × V)} {ds : List (Key × D)} : RpK K mg z kvs ds → Cont K mg z (.dK kvs) (.dK ds)
  | dT {kvs : List (List Key × V)} {ds : List (List Key × D)} : RpT K mg z kvs ds → Cont K mg z (.dT kvs) (.dT ds)
theorem Cont.nt {K : PySem.W.Frag} {mg : Str → Option Value} {z : Z} {o : HO} {d : D} : Cont K mg z o d → o.nt
  | .lst _ => trivial
  | .dK _ => trivial
  | .dT _ => trivial
theorem Cont.le {K : PySem.W.Frag} {mg : Str → Option Value} {z z' : Z} (l : Z.le z z') {o : HO} {d : D} : Cont K mg z o d → Cont K mg z' o d
  | .lst r => .lst (RpL.le l r)
  | .dK r => .dK (RpK.le l r)
  | .dT r => .dT (RpT.le l r)
theorem Cont.rp {K : PySem.W.Frag} {mg : Str → Option Value} {z : Z} {a : Addr} {o : HO} {d : D} (h : z.f a = some o) (c : Cont K mg z o d) : Rp K mg z (.ref a) d := by
  cases c with
  | lst r => exact .lst h r
  | dK r => exact .dK h r
  | dT r => exact .dT h r
/-- read now: known, or an object as it stands -/
def RB (K : PySem.W.Frag) (mg : Str → Option Value) (z : Z) (H : Hp) (v : V) (d : D) : Prop :=
  Rp K mg z v d ∨ ∃ a o, v = .ref a ∧ ¬ z.β a ∧ H a = some o ∧ Cont K mg z o d
theorem RB.step {K : PySem.W.Frag} {mg : Str → Option Value} {z z' : Z} {H H' : Hp} {v : V} {d : D} (s : Step K z H z' H') (h : RB K mg z H v d) : RB K mg z' H' v d := by
  rcases h with h | ⟨a, o, e, b, q, c⟩
  · exact .inl (h.le s.le)
  · refine .inr ⟨a, o, e, fun x => ?_, s.keep a o b q c.nt.nb, c.le s.le⟩
    rcases s.βn a x with x | x
    · exact b x
    · exact x o q c.nt.nb
section
variable {K : PySem.W.Frag} {mg : Str → Option Value} {z : Z} {H : Hp} {v : V}
theorem RB.lst {ds : List D} (s : ZOk K z H) (h : RB K mg z H v (.lst ds)) : ∃ a vs, v = .ref a ∧ H a = some (.lst vs) ∧ RpL K mg z vs ds := by
  rcases h with h | ⟨a, o, e, b, q, c⟩
  · cases h with
    | lst h r => exact ⟨_, _, rfl, s.sub _ _ h, r⟩
  · cases c with
    | lst r => exact ⟨a, _, e, q, r⟩
theorem RB.tup {ds : List D} (s : ZOk K z H) (h : RB K mg z H v (.tup ds)) : ∃ a vs, v = .ref a ∧ H a = some (.tup vs) ∧ RpL K mg z vs ds := by
  rcases h with h | ⟨a, o, e, b, q, c⟩
  · cases h with
    | tup h r => exact ⟨_, _, rfl, s.sub _ _ h, r⟩
  · cases c
theorem RB.dK {ds : List (Key × D)} (s : ZOk K z H) (h : RB K mg z H v (.dK ds)) : ∃ a kvs, v = .ref a ∧ H a = some (.dK kvs) ∧ RpK K mg z kvs ds := by
  rcases h with h | ⟨a, o, e, b, q, c⟩
  · cases h with
    | dK h r => exact ⟨_, _, rfl, s.sub _ _ h, r⟩
  · cases c with
    | dK r => exact ⟨a, _, e, q, r⟩
theorem RB.dT {ds : List (List Key × D)} (s : ZOk K z H) (h : RB K mg z H v (.dT ds)) : ∃ a kvs, v = .ref a ∧ H a = some (.dT kvs) ∧ RpT K mg z kvs ds := by
  rcases h with h | ⟨a, o, e, b, q, c⟩
  · cases h with
    | dT h r => exact ⟨_, _, rfl, s.sub _ _ h, r⟩
  · cases c with
    | dT r => exact ⟨a, _, e, q, r⟩
theorem RB.int {i : Int} (h : RB K mg z H v (.int i)) : v = .int i := by
  rcases h with h | ⟨a, o, e, b, q, c⟩
  · cases h; rfl
  · cases c
theorem RB.bl {i : Bool} (h : RB K mg z H v (.bl i)) : v = .bl i := by
  rcases h with h | ⟨a, o, e, b, q, c⟩
  · cases h; rfl
  · cases c
theorem RB.str {i : Str} (h : RB K mg z H v (.str i)) : v = .str i := by
  rcases h with h | ⟨a, o, e, b, q, c⟩
  · cases h; rfl
  · cases c
theorem RB.non (h : RB K mg z H v .non) : v = .non := by
  rcases h with h | ⟨a, o, e, b, q, c⟩
  · cases h; rfl
  · cases c
theorem RB.ty {n : String} (h : RB K mg z H v (.ty n)) : v = .ty n := by
  rcases h with h | ⟨a, o, e, b, q, c⟩
  · cases h; rfl
  · cases c
theorem RB.rng {lo hi : Int} (s : ZOk K z H) (h : RB K mg z H v (.rng lo hi)) : ∃ a, v = .ref a ∧ H a = some (.rng lo hi) := by
  rcases h with h | ⟨a, o, e, b, q, c⟩
  · cases h with
    | rng h => exact ⟨_, rfl, s.sub _ _ h⟩
  · cases c
end

/-! ### what is fixed of a def: its names, scope, the slots that hold objects of its own, the table of defs -/
structure Fix where
  N : List Str
  sc : Scope
  fn : Str → Bool
  mt : List Nat
/-- an object of the def's own -/
def Own (K : PySem.W.Frag) (mg : Str → Option Value) (H0 : Hp) (z : Z) (H : Hp) (v : V) (d : D) : Prop :=
  ∃ a o, v = .ref a ∧ z.f a = none ∧ fr H0 a ∧ ¬ z.β a ∧ H a = some o ∧ Cont K mg z o d
theorem Own.step {K : PySem.W.Frag} {mg : Str → Option Value} {H0 : Hp} {z z' : Z} {H H' : Hp} {v : V} {d : D} (s : Step K z H z' H') (h : Own K mg H0 z H v d) : Own K mg H0 z' H' v d := by
  obtain ⟨a, o, e, f0, h0, b, q, c⟩ := h
  refine ⟨a, o, e, s.new a o f0 q c.nt, h0, fun x => ?_, s.keep a o b q c.nt.nb, c.le s.le⟩
  rcases s.βn a x with x | x
  · exact b x
  · exact x o q c.nt.nb
theorem Own.rb {K : PySem.W.Frag} {mg : Str → Option Value} {H0 : Hp} {z : Z} {H : Hp} {v : V} {d : D} (h : Own K mg H0 z H v d) : RB K mg z H v d := by
  obtain ⟨a, o, e, f0, h0, b, q, c⟩ := h
  exact .inr ⟨a, o, e, b, q, c⟩
/-- the slots that hold objects of the def's own; where an exception may leave it -/
structure Mt where
  l : List Nat
  ok : Z → Hp → Prop
instance : Membership Nat Mt := ⟨fun m i => i ∈ m.l⟩
structure EnvR (mt : Mt) (K : PySem.W.Frag) (mg : Str → Option Value) (z0 : Z) (H0 : Hp) (z : Z) (H : Hp) (σ : Sg) (ρ : Env) : Prop where
  st : Step K z0 H0 z H
  base : mt.ok z0 H0
  len : ρ.length = σ.length
  val : ∀ i d, i ∉ mt → ρ[i]? = some (some d) → ∃ v, σ[i]? = some (some v) ∧ Rp K mg z v d
  own : ∀ i d, i ∈ mt → ρ[i]? = some (some d) → ∃ v, σ[i]? = some (some v) ∧ Own K mg H0 z H v d
  apart : ∀ i j d e, i ∈ mt → j ∈ mt → i ≠ j → ρ[i]? = some (some d) → ρ[j]? = some (some e) → σ[i]? ≠ σ[j]?
section
variable {mt : Mt} {K : PySem.W.Frag} {mg : Str → Option Value} {z0 z z' : Z} {H0 H H' : Hp} {σ : Sg} {ρ : Env}
theorem EnvR.step (E : EnvR mt K mg z0 H0 z H σ ρ) (s : Step K z H z' H') : EnvR mt K mg z0 H0 z' H' σ ρ :=
  ⟨E.st.trans s, E.base, E.len, fun i d hi e => let ⟨v, a, b⟩ := E.val i d hi e; ⟨v, a, b.le s.le⟩, fun i d hi e => let ⟨v, a, b⟩ := E.own i d hi e; ⟨v, a, b.step s⟩, E.apart⟩
theorem EnvR.ok (E : EnvR mt K mg z0 H0 z H σ ρ) : ZOk K z H := E.st.ok
/-- a known value into a slot of values -/
theorem EnvR.set (E : EnvR mt K mg z0 H0 z H σ ρ) {i : Nat} {v : V} {d : D} (hi : i ∉ mt) (r : Rp K mg z v d) : EnvR mt K mg z0 H0 z H (σ.set i (some v)) (ρ.set i (some d)) := by
  refine ⟨E.st, E.base, by rw [List.length_set, List.length_set]; exact E.len, fun j e hj q => ?_, fun j e hj q => ?_, fun j k d e hj hk hjk q q' => ?_⟩
  · by_cases h : i = j
    · subst h
      by_cases hl : i < ρ.length
      · rw [List.getElem?_set_self hl] at q
        cases q
        exact ⟨v, List.getElem?_set_self (by rw [← E.len]; exact hl), r⟩
      · rw [List.getElem?_eq_none (by rw [List.length_set]; omega)] at q
        cases q
    · rw [List.getElem?_set_ne h] at q ⊢
      exact E.val j e hj q
  · have h : i ≠ j := fun x => hi (x ▸ hj)
    rw [List.getElem?_set_ne h] at q ⊢
    exact E.own j e hj q
  · have h : i ≠ j := fun x => hi (x ▸ hj)
    have h' : i ≠ k := fun x => hi (x ▸ hk)
    rw [List.getElem?_set_ne h] at q ⊢
    rw [List.getElem?_set_ne h'] at q' ⊢
    exact E.apart j k d e hj hk hjk q q'
/-- slots forgotten -/
theorem EnvR.unset (E : EnvR mt K mg z0 H0 z H σ ρ) (i : Nat) : EnvR mt K mg z0 H0 z H σ (ρ.set i none) := by
  have key : ∀ {j : Nat} {d : D}, (ρ.set i none)[j]? = some (some d) → ρ[j]? = some (some d) := fun {j d} q => by
    by_cases h : i = j
    · subst h
      by_cases hl : i < ρ.length
      · rw [List.getElem?_set_self hl] at q; cases q
      · rw [List.getElem?_eq_none (by rw [List.length_set]; omega)] at q; cases q
    · rw [List.getElem?_set_ne h] at q; exact q
  exact ⟨E.st, E.base, by rw [List.length_set]; exact E.len, fun j d hj q => E.val j d hj (key q), fun j d hj q => E.own j d hj (key q), fun j k d e hj hk hjk q q' => E.apart j k d e hj hk hjk (key q) (key q')⟩
end
end PW

set_option Elab.async false
set_option linter.all false
set_option maxRecDepth 100000
set_option maxHeartbeats 2000000
namespace PW
open PySem PySem.Spec PyProof.Rows L2
open PySem.W (Frag clsIn nsIn findIn typeIn subIn keepIn alongIn mroIn codeIn hasDictIn)
/-! ### own exception classes: __init__ calls super().__init__ and stores its parameters -/
/-- what K says of a class and its __init__ -/
structure InitC (P : Program) (K : Frag) (C : Addr) where
  fI : Addr
  name : Str
  qual : Str
  params : Arguments
  scope : Scope
  c : Addr
  cc : Addr
structure InitOk (P : Program) (K : Frag) (C : Addr) (I : InitC P K C) (body : List Stmt) (ps : List Str) : Prop where
  oex : OexC K C
  iC : findIn K (.ref C) "__init__" = some (some (.ref I.fI))
  tI : typeIn K (.ref I.fI) = some (.type "function")
  lk : ∃ oc od osl doc pm ct, K.lookup I.fI = some ⟨oc, od, .func (PySem.W.ksFn I.name I.qual I.params body I.scope .none .none doc pm none (.ref I.c) ct I.cc), osl⟩
  hcd : codeIn K (.ref I.c) I.qual = true
  code : ∃ ccl cdd vs ccs file tf, K.lookup I.c = some ⟨ccl, cdd, .fields vs, ccs⟩ ∧ vs[2]? = some (.str file tf) ∧ ((P.main.file : Str) == file) = true
  cell : ∃ cl cld csl, K.lookup I.cc = some ⟨cl, cld, .cell (some (.ref C)), csl⟩
  opq : nsIn K PySem.cStatics "thirdparty.any" = some none
  sup : PySem.W.ks_superIn K C C "__init__" = some (some (.builtin "ValueError.__init__"))
  sub : subIn K (.ref C) (.type "ValueError") = some true
  mroS : mroIn K C (.ref C) = some true
  exi : PySem.W.excInitIn K C [.type "ValueError", .type "Exception", .type "BaseException", .type "object"] "ValueError.__new__" = true
  noat : ∀ f ∈ ps, findIn K (.ref C) f = some none
/-- the code of such an __init__ of one parameter -/
abbrev initB (x : Str) (p0 p1 p2 p3 p4 p5 p6 p7 p8 p9 : Pos) : List Stmt :=
  [.Expr (.Call (.Attribute (.Call (.Name "super" p0) [] [] p1) "__init__" p2) [.Name x p3] [] p4) p5, .Assign [.Attribute (.Name "self" p6) x p7] (.Name x p8) p9]
def sp1 (C : Addr) (x : Str) : Sp := fun vs H Q _ => ∃ (a : Addr) (v : V), vs = [.ref a, v] ∧ H a = some (exo a C none) ∧ ∀ d, H d = none → d ≠ a → Q .non (upd (upd H d (exd d [(x, v)])) a (exo a C (some d)))
section
variable {P : Program} {w : World} {K : Frag} {mg : Str → Option Value} {base : Heap} {C : Addr} {x : Str} {p0 p1 p2 p3 p4 p5 p6 p7 p8 p9 : Pos}
/-- the state within, exc.: super().__init__(..) done -/
theorem super_done {X : Cx} {I : InitC P K C} {body : List Stmt} {ps : List Str} (ok : InitOk P K C I body ps) {pins : List (Addr × Obj)} {σ : Sg} {H : Hp} {s : Shared} {a u : Addr} {us : List Value} {A : Around} {E : Value → Shared → Prop} {Q : Value → Shared → Prop} (hK : X.K = K) (J : Inv X pins σ H s) (e : H a = some (exo a C none)) (hu : s.heap.get? u = some (PySem.W.kxs_mw "ValueError.__init__" a)) (hl : us.length ≤ sizeLine)
    (h : ∀ s', Inv X pins σ H s' → (∀ b u, b ≠ a → s.heap.get? b = some u → s'.heap.get? b = some u) → Q .none s') : wpAny (model X.prog X.w) A (call (.ref u) us) Q E s := by
  obtain ⟨t1, ho⟩ := exo_at J.hok e
  obtain ⟨hh, g, d, tk, os⟩ := s
  have KI := J.kIn
  rw [hK] at KI
  obtain ⟨nm, N', qn, bs, bm, hdct, sn, sub, ab, col, dd, k0, k1, k2, k3, k5, hC, hT⟩ := PySem.W.excInit_of KI ok.exi
  refine wpAny_call (codeAny_of_tree ?_)
  show wpAny _ A.in1 (callAny (.ref u) ⟨us, []⟩) _ _ _
  simp only [callAny]
  refine wpAny_bind (wpAny_load hu ?_)
  simp only [PySem.W.kxs_mw, show (Value.type "method-wrapper" == Value.type "method" || Value.type "method-wrapper" == Value.type "builtin_function_or_method" || Value.type "method-wrapper" == Value.type "method-wrapper") = true by decide, if_true]
  refine PySem.W.KFB.if_so (by decide) ?_
  refine wpAny_bind (PySem.W.check_bound_init F.excBase_ValueError.toExcCallFacts hC ho rfl ?_)
  refine wpAny_bind (wpAny_pure (wpAny_pure ?_))
  refine ⟨plainId_quiet F.excBase_ValueError.init.plain _, codeAny_builtin F.excBase_ValueError.initEntry ?_⟩
  refine PySem.W.exc_init_tree (cls := .ref C) (t0 := t1) (dv := none) (c2 := .none) (c3 := .none) (b4 := .bool false) ho hl fun h' k hx ht => ?_
  have J2 := J.write (t' := tk) (x := a) (e := a) (o := exo a C none) (by rw [e]; exact True.intro) (.inl rfl) k ⟨_, hx⟩ (exo_ok hx)
  have eu : upd H a (exo a C none) = H := by
    funext b
    by_cases hb : b = a
    · rw [hb, upd_same, e]
    · rw [upd_ne hb]
  rw [eu] at J2
  exact h _ J2 k
theorem ks_env {I : InitC P K C} {bd : List Stmt} {doc pm ct : Value} {L : Addr} : callEnv (PySem.W.ksFn I.name I.qual I.params bd I.scope .none .none doc pm none (.ref I.c) ct I.cc) L I.fI = NdefX.envF ⟨I.name, I.qual, I.params, bd, I.scope, [("__class__", I.cc)], I.c⟩ I.fI L := rfl
abbrev hev (env : PySem.Env) (es : List Expr) (p0 p1 p2 p4 : Pos) : Prop := ∃ (pl : Sem Bool), eval (.Call (.Attribute (.Call (.Name "super" p0) [] [] p1) "__init__" p2) es [] p4) env = (do
      let ov ← attributeBase (.Call (.Name "super" p0) [] [] p1) "__init__" env (eval (.Call (.Name "super" p0) [] [] p1) env)
      standAt p2.atName
      let (f, first) ← holding [ov] (getMethod ov "__init__" pl)
      callWith p4 f first (backTo p4 (starEach es env)) [])
theorem wpAny_Name_of_load {M : Model} {A : Around} {E : Value → Shared → Prop} {s : Shared} {env : PySem.Env} {y : Str} {p : Pos} {Q : Value → Shared → Prop} (h : wpAny M A (loadName env y) Q E s) (hd : (y == ("__debug__" : Str)) = false) : wpAny M A (eval (.Name y p) env) Q E s := by
  simp only [eval_Name, hd, Bool.false_eq_true, if_false]
  exact wpAny_bind (wpAny_standAt h)
theorem spl_names {X : Cx} {A : Around} {E : Value → Shared → Prop} {s : Shared} {mm : Str → Option Value} (ns : s.heap.Ns X.env.locals mm) (hk : X.env.scope.kind = .function) : ∀ (es : List Expr) (us : List Value) (pos : Pos),
    Paired (fun (e : Expr) (u : Value) => ∃ y p, e = .Name y p ∧ X.env.kindOf y = some .local ∧ mm y = some u ∧ (y == ("__debug__" : Str)) = false) es us → ∀ {Q : List Value → Shared → Prop}, Q us s → wpAny (model X.prog X.w) A (spliced (backTo pos (starEach es X.env))) Q E s
  | [], us, pos, h, Q, q => by
    cases us with
    | nil => exact Calls.spliced_nil q
    | cons _ _ => cases h
  | e :: es, us, pos, h, Q, q => by
    cases us with
    | nil => cases h
    | cons u us =>
      cases h with
      | cons h1 h2 =>
      obtain ⟨y, p, rfl, hy, hm, hd⟩ := h1
      show wpAny _ _ (spliced ((false, eval (.Name y p) X.env) :: backTo pos (starEach es X.env))) _ _ _
      refine Calls.spliced_cons (wpAny_Name_of_load (wpAny_loadName_local hk hy ns hm ?_) hd)
      exact spl_names ns hk es us pos h2 q

theorem Paired_imp' {α β : Type} {F G : α → β → Prop} : ∀ {l₁ : List α} {l₂ : List β}, Paired F l₁ l₂ → (∀ a b, F a b → G a b) → Paired G l₁ l₂
  | _, _, .nil, _ => .nil
  | _, _, .cons h r, g => .cons (g _ _ h) (Paired_imp' r g)
theorem super_stmt {X : Cx} {I : InitC P K C} {body : List Stmt} {ps : List Str} (ok : InitOk P K C I body ps) {σ : Sg} {H : Hp} {s : Shared} {a L : Addr} {mm : Str → Option Value} {E : Value → Shared → Prop} {Q : Flow → Shared → Prop} {es : List Expr} {us : List Value} {p0 p1 p2 p4 p5 : Pos}
    (hP : X.prog = P) (hK : X.K = K) (henv : X.env = NdefX.envF ⟨I.name, I.qual, I.params, body, I.scope, [("__class__", I.cc)], I.c⟩ I.fI L) (hkd : I.scope.kind = .function)
    (hks : I.scope.names.lookup ("super" : Str) = some .globalImplicit) (hkc : I.scope.names.lookup ("__class__" : Str) = some .free) (hself : I.scope.names.lookup ("self" : Str) = some .local) (har : ∃ ar, (I.params.posonlyargs ++ I.params.args).head? = some ar ∧ ar.arg = "self") (hsuper : X.mg "super" = none) (htop : (P.main.scope.names.lookup ("super" : Str)).isSome = false)
    (hv : hev X.env es p0 p1 p2 p4) (hpl : (starEach es X.env).any (·.1) = false) (hev1 : interactive X.env = false ∧ swapsWith (.Call (.Attribute (.Call (.Name "super" p0) [] [] p1) "__init__" p2) es [] p4) none p5.line X.env = pure false)
    (J : Inv X [] σ H s) (e : H a = some (exo a C none)) (ns : ∀ s', Inv X [] σ H s' → (∀ b u, s.heap.get? b = some u → s'.heap.get? b = some u) → s'.heap.Ns X.env.locals mm) (hm : mm "self" = some (.ref a))
    (hes : Paired (fun (e : Expr) (u : Value) => ∃ y p, e = Expr.Name y p ∧ X.env.kindOf y = some .local ∧ mm y = some u ∧ (y == ("__debug__" : Str)) = false) es us) (hl : us.length ≤ sizeLine) (hne : es ≠ [])
    (h : ∀ s', Inv X [] σ H s' → (∀ b u, b ≠ a → s.heap.get? b = some u → s'.heap.get? b = some u) → Q .next s') :
    _root_.PySem.wpAt (model X.prog X.w) X.A (.func body X.env) (exec (.Expr (.Call (.Attribute (.Call (.Name "super" p0) [] [] p1) "__init__" p2) es [] p4) p5) X.env) Q E s := by
  obtain ⟨oc, od, osl, doc, pm, ct, lk⟩ := ok.lk
  obtain ⟨ccl, cdd, vs, ccs, file, tf, hcode, hvs, hfile⟩ := ok.code
  obtain ⟨cl, cld, csl, hcell⟩ := ok.cell
  obtain ⟨ar, hp, har⟩ := har
  obtain ⟨pl, hv⟩ := hv
  obtain ⟨t1, ho⟩ := exo_at J.hok e
  have KX : K.In s.heap := hK ▸ J.kIn
  obtain ⟨mb, hmb, hbb⟩ := J.mod.blt
  obtain ⟨nm, q, N, bs, bm, sn, sub, ab, col, dd, k0, k1, k2, k3, k5, hC, hbm⟩ := ok.oex.cls
  have hcl : PySem.W.clsIn K C = some { name := nm, bases := bs, mro := .ref C :: bm, ns := N, qualname := q, hasDict := true, slotNames := sn, subclasses := sub, abstract := ab, collection := col, hasDel := false } := by unfold PySem.W.clsIn; rw [hC] <;> rfl
  have hC1 := KX _ _ hC
  refine ks_wpAt_Expr_any (ks_wpAt_MethodCall (pl := pl) ?_ hv) hev1.1 hev1.2
  subst hP
  have kf : X.env.func = some I.fI := by rw [henv]
  have kcode : X.env.code = .ref I.c := by rw [henv]
  have ksc : X.env.scope = I.scope := by rw [henv]
  have kk : ∀ x, X.env.kindOf x = I.scope.names.lookup x := fun x => by rw [henv]; rfl
  have kcell : X.env.cells.lookup ("__class__" : Str) = some I.cc := by rw [henv]; rfl
  refine ks_wpAt_super_base (ar := ar) (by rw [kk]; exact hks) (by rw [kk]; exact hkc) rfl kf (KX _ _ lk) rfl hp kcode (KX _ _ hcode) rfl hvs hfile htop ?_
  refine PySem.W.ks_loadName_global (by rw [ksc]; exact hkd) (by rw [kk]; exact hks) (Calls.loadGlobal_builtin (by rw [J.ok.glob]; exact J.mod.glob.keeps J.bk) hsuper (by rw [J.ok.blt]; exact hmb.keeps J.bk) ((hbb _ (by decide)).trans (by rfl)) ⟨rfl, ?_⟩)
  refine wpAny_loadName_free (by rw [ksc]; exact hkd) (by rw [kk]; exact hkc) kcell ⟨_, KX _ _ hcell, rfl⟩ ?_
  rw [har]
  refine wpAny_loadName_local (by rw [ksc]; exact hkd) (by rw [kk]; exact hself) (ns s J fun _ _ z => z) hm ?_
  refine ks_wpAny_isType_cls hC1 rfl ⟨rfl, ?_⟩
  obtain ⟨hh, g, d, t, os⟩ := s
  refine ks_wpAny_call_super hC1 rfl ho rfl (fun c e => by cases e) (PySem.W.looks_mroIn KX ok.mroS) (fun h' e1 k1 => ?_)
  have J1 := J.kept (t' := t) k1
  have KX1 : K.In h' := hK ▸ J1.kIn
  refine PySem.W.kxs_getMethod PySem.W.kxs_ValueError e1 (PySem.W.looks_opaque KX1 ok.opq) (l₀ := .ref C :: bm) ?_ rfl KX1 (by have := ok.sup; unfold PySem.W.ks_superIn at this; rw [hcl] at this; exact this) ?_ ?_ rfl ?_
  · exact fun A Q E s k q => wpAny_bind ((PySem.W.looks_clsIn KX1 hcl) A _ E s k (wpAny_pure q))
  · exact (PySem.W.InstAt.type (od := none) ⟨k1 _ _ ho, rfl, rfl, trivial⟩).andThen (PySem.W.looks_subIn KX1 ok.sub)
  · rintro rfl
    rw [hC1] at ho
    cases ho
  have k2 : ∀ b u, h'.get? b = some u → (h'.push (PySem.W.kxs_mw "ValueError.__init__" a)).get? b = some u := fun b u e => Heap.get?_push_of_some _ e
  have J2 := J1.kept (t' := t + 1) k2
  have hu : (h'.push (PySem.W.kxs_mw "ValueError.__init__" a)).get? h'.objs.size = some (PySem.W.kxs_mw "ValueError.__init__" a) := Heap.get?_push_at rfl rfl
  cases es with
  | nil => exact absurd rfl hne
  | cons e0 es =>
  have hst : starEach (e0 :: es) X.env = (false, eval e0 X.env) :: starEach es X.env := by
    cases hes with
    | cons h1 h2 =>
      obtain ⟨y, p, rfl, _⟩ := h1
      rfl
  have hpl2 : (backTo p4 (starEach (e0 :: es) X.env)).any (·.1) = false := by
    rw [← hpl]
    unfold backTo
    rw [List.any_map]
    rfl
  refine PySem.W.kxs_callWith (i := "ValueError.__init__") (x := a) hpl2 ?_
  have hsp : wpAny (model X.prog X.w) X.A (spliced (backTo p4 (starEach (e0 :: es) X.env))) (fun vs s1 => PySem.W.KxsAt "ValueError.__init__" h'.objs.size a s1.heap ∧ wpAny (model X.prog X.w) X.A (call (.ref h'.objs.size) ([] ++ vs)) (fun _ => Q .next) E s1) E ⟨h'.push (PySem.W.kxs_mw "ValueError.__init__" a), g, d, t + 1, os⟩ := by
    refine spl_names (ns _ J2 fun b u z => k2 _ _ (k1 _ _ z)) (by rw [ksc]; exact hkd) (e0 :: es) us p4 hes ⟨hu, ?_⟩
    refine super_done ok hK J2 e hu hl fun s' J3 k3 => h s' J3 fun b u hb z => k3 b u hb (k2 _ _ (k1 _ _ z))
  rw [hst] at hsp ⊢
  exact Calls.evalArgs_plain hsp

abbrev superS (es : List Expr) (p0 p1 p2 p4 p5 : Pos) : Stmt := .Expr (.Call (.Attribute (.Call (.Name "super" p0) [] [] p1) "__init__" p2) es [] p4) p5
def spI (C : Addr) (xs : List Str) (t : TS) : Sp := fun vs H Q _ => ∃ (a : Addr) (ws : List V), vs = .ref a :: ws ∧ ws.length = xs.length ∧ ws.length ≤ 900 ∧ H a = some (exo a C none) ∧ t { nx := fun _ H' => Q .non H', rt := Q } (NdefX.startF (("self" : Str) :: (xs ++ [("__class__" : Str)])) vs [none]) H
theorem initN {CX : CXT} {k : Nat} {xs : List Str} {es : List Expr} {rest : List Stmt} {t : TS} {p0 p1 p2 p4 p5 : Pos} {I : InitC P K C} (ok : InitOk P K C I (superS es p0 p1 p2 p4 p5 :: rest) xs) (S : NdefX.NScope (("self" : Str) :: (xs ++ [("__class__" : Str)])) ("self" :: xs) ["__class__"] I.scope)
    (hks : I.scope.names.lookup ("super" : Str) = some .globalImplicit) (har : ∃ ar, (I.params.posonlyargs ++ I.params.args).head? = some ar ∧ ar.arg = "self") (hsuper : mg "super" = none) (htop : (P.main.scope.names.lookup ("super" : Str)).isSome = false)
    (hbind : ∀ (doc pm ct : Value) (us : List Value), us.length = (("self" : Str) :: xs).length → bindArgs (PySem.W.ksFn I.name I.qual I.params (superS es p0 p1 p2 p4 p5 :: rest) I.scope .none .none doc pm none (.ref I.c) ct I.cc) ⟨us, []⟩ = pure ((("self" : Str) :: xs).zip us))
    (hself : (∀ (u : Value) (us : List Value), us.length = xs.length → ((("self" : Str) :: xs).zip (u :: us)).reverse.lookup ("self" : Str) = some u))
    (hes : ∀ (u0 : Value) (us : List Value), us.length = xs.length → Paired (fun (e : Expr) (u : Value) => ∃ y p, e = Expr.Name y p ∧ y ∈ xs ∧ ((("self" : Str) :: xs).zip (u0 :: us)).reverse.lookup y = some u ∧ (y == ("__debug__" : Str)) = false) es us)
    (hne : es ≠ []) (hv : ∀ f L, hev (NdefX.envF ⟨I.name, I.qual, I.params, (superS es p0 p1 p2 p4 p5 :: rest), I.scope, [("__class__", I.cc)], I.c⟩ f L) es p0 p1 p2 p4)
    (hpl : ∀ f L, (starEach es (NdefX.envF ⟨I.name, I.qual, I.params, (superS es p0 p1 p2 p4 p5 :: rest), I.scope, [("__class__", I.cc)], I.c⟩ f L)).any (·.1) = false)
    (hev1 : ∀ f L, interactive (NdefX.envF ⟨I.name, I.qual, I.params, (superS es p0 p1 p2 p4 p5 :: rest), I.scope, [("__class__", I.cc)], I.c⟩ f L) = false ∧ swapsWith (.Call (.Attribute (.Call (.Name "super" p0) [] [] p1) "__init__" p2) es [] p4) none p5.line (NdefX.envF ⟨I.name, I.qual, I.params, (superS es p0 p1 p2 p4 p5 :: rest), I.scope, [("__class__", I.cc)], I.c⟩ f L) = pure false)
    (hrest : ∀ (A : Around) (outer : List PySem.Env) (s : Shared) (H : Hp) (E : XK), PSs (NdefX.ncx CX P w K mg base (("self" : Str) :: (xs ++ [("__class__" : Str)])) ⟨I.name, I.qual, I.params, (superS es p0 p1 p2 p4 p5 :: rest), I.scope, [("__class__", I.cc)], I.c⟩ I.fI A outer s H E) rest t) :
    ∃ fd, Binds K fd ("self" :: xs) [] ∧ FnOk P w K mg base CX (k + 1) I.fI fd ("self" :: xs) (spI C xs t) := by
  obtain ⟨oc, od, osl, doc, pm, ct, lk⟩ := ok.lk
  obtain ⟨cl, cld, csl, hcell⟩ := ok.cell
  refine ⟨PySem.W.ksFn I.name I.qual I.params (superS es p0 p1 p2 p4 p5 :: rest) I.scope .none .none doc pm none (.ref I.c) ct I.cc, Binds.all fun us hl => hbind doc pm ct us hl, ⟨fun vs H Q E ⟨a, ws, e, hl, _⟩ => by rw [e, List.length_cons, hl]; rfl, fun A outer s H args us vs' Q E hr e0 hb r hsp => ?_⟩⟩
  obtain ⟨a, ws, rfl, hl, hl9, ha, hq⟩ := hsp
  have KX : K.In s.heap := e0.mod.kin.keeps fun b o e => (e0.bs b o e).1
  have lim : s.heap.NoLimit := e0.mod.nolimit.keeps fun b o e => (e0.bs b o e).1
  have hcc := e0.bs I.cc _ (e0.mod.kin _ _ hcell)
  cases r with
  | cons ru r =>
  rename_i u us
  obtain rfl : u = .ref a := ru
  refine ks_codeAny_call_defAt (body := superS es p0 p1 p2 p4 p5 :: rest) (binds := (("self" : Str) :: xs).zip (.ref a :: us)) hr.depth (KX _ _ lk) rfl lim (PySem.W.codeRec_of KX ok.hcd) rfl hb S.nocell (fun ⟨n, _⟩ hy => S.par n (List.of_mem_zip hy).1) (fun h₁ hns kp => ?_) S.co S.gen S.kind
  have C0 : NdefX.CellsAt [("__class__", I.cc)] ["__class__"] [none] s.heap H := by
    refine ⟨rfl, fun y c e => ?_, fun x y c e1 e2 => ?_, fun i y e => ?_⟩
    · obtain rfl : I.cc = c := by
        simp only [List.lookup] at e
        split at e <;> cases e
        rfl
      exact ⟨hcc.2, _, _, hcc.1, rfl⟩
    · have q : ∀ z, List.lookup z [(("__class__" : Str), I.cc)] = some c → z = "__class__" := fun z e => by
        simp only [List.lookup] at e
        split at e
        · rename_i q
          exact eq_of_beq q
        · cases e
      rw [q x e1, q y e2]
    · cases i with
      | zero =>
        cases e
        exact ⟨I.cc, by simp [List.lookup], fun v z => by cases z⟩
      | succ i => cases e
  have hvl : us.length = xs.length := by rw [← hl]; exact (Paired.length r).symm
  have J : Inv (NdefX.ncx CX P w K mg base (("self" : Str) :: (xs ++ [("__class__" : Str)])) ⟨I.name, I.qual, I.params, (superS es p0 p1 p2 p4 p5 :: rest), I.scope, [("__class__", I.cc)], I.c⟩ I.fI A outer s H E) [] (NdefX.startF (("self" : Str) :: (xs ++ [("__class__" : Str)])) (.ref a :: ws) [none]) H { s with heap := h₁, toks := s.toks + ((("self" : Str) :: xs).zip (Value.ref a :: us)).length } :=
    NdefX.inv_startN S hr.hd e0 (by rw [List.length_cons, List.length_cons, hl]) (.cons rfl r) C0 hns kp
  have hL : s.heap.objs.size ≠ a := fun z => by
    have h1 := J.free
    rw [show (NdefX.ncx CX P w K mg base (("self" : Str) :: (xs ++ [("__class__" : Str)])) ⟨I.name, I.qual, I.params, (superS es p0 p1 p2 p4 p5 :: rest), I.scope, [("__class__", I.cc)], I.c⟩ I.fI A outer s H E).env.locals = s.heap.objs.size from rfl, z, ha] at h1
    cases h1
  have fin : ∀ {σ' : L2.St} {H' : Hp} {v : V} {u : Value} {Q : VK} {s' : Shared}, Inv (NdefX.ncx CX P w K mg base (("self" : Str) :: (xs ++ [("__class__" : Str)])) ⟨I.name, I.qual, I.params, (superS es p0 p1 p2 p4 p5 :: rest), I.scope, [("__class__", I.cc)], I.c⟩ I.fI A outer s H E) [] σ' H' s' → L2.RelV v u → Q v H' → CE outer P w H s Q u s' :=
    fun {σ' H' v u Q s'} J rv q => ⟨v, H', J.os, J.bare, J.base, J.hok, rv, q⟩
  refine ks_wpAt_execs_cons (super_stmt (us := us) (a := a) (L := s.heap.objs.size) (mm := fun y => ((("self" : Str) :: xs).zip (Value.ref a :: us)).reverse.lookup y) ok rfl rfl rfl S.kind hks (S.frk _ (by simp)) (S.par _ (by simp)) har hsuper htop (hv _ _) (hpl _ _) (hev1 _ _) J ha (fun s' _ k => ?_) (hself _ _ hvl) ?_ ?_ hne fun s' J2 k => ?_)
  · obtain ⟨o, es', ep, e1, e2⟩ := hns
    exact ⟨o, es', ep, k _ _ e1, e2⟩
  · exact Paired_imp' (hes (.ref a) us hvl) fun e u ⟨y, p, q1, q2, q3, q4⟩ => ⟨y, p, q1, S.par _ (List.mem_cons_of_mem _ q2), q3, q4⟩
  · rw [sizeLine_eq, hvl, ← hl]; omega
  · refine wpAt_of_wpAny ?_
    refine wpAny_mono ((hrest A outer s H E).run [] _ _ H _ J2 hq) (fun fl s' hs => ?_) fun e s' hs => hs
    cases fl with
    | ret u =>
      obtain ⟨v, σ', H', J, rv, q⟩ := hs
      exact fin J rv q
    | next =>
      obtain ⟨σ', H', J, q⟩ := hs
      exact fin (v := V.non) (u := Value.none) J rfl q
    | brk =>
      obtain ⟨_, _, _, q⟩ := hs
      exact False.elim q
    | cont =>
      obtain ⟨_, _, _, q⟩ := hs
      exact False.elim q
end
end PW

set_option Elab.async false
set_option linter.all false
set_option maxRecDepth 100000
set_option maxHeartbeats 2000000
namespace PW
open PySem PySem.Spec PyProof.Rows L2
/-! ### what is known of an own exception class -/
/-- the exception made, its dict: the fields, the last first -/
def spX (C : Addr) (fs : List Str) : Sp := fun vs H Q _ => ∃ (a : Addr) (ws : List V), vs = .ref a :: ws ∧ ws.length = fs.length ∧ H a = some (exo a C none) ∧ ∀ dx, H dx = none → dx ≠ a → Q .non (upd (upd H dx (exd dx (fs.zip ws).reverse)) a (exo a C (some dx)))
structure XcOk (P : Program) (w : World) (K : PySem.W.Frag) (mg : Str → Option Value) (base : Heap) (c : Str) (fs : List Str) : Prop where
  ex : ∃ (C fI : Addr) (fd : FuncData), mg c = some (.ref C) ∧ OexC K C ∧ PySem.W.findIn K (.ref C) "__init__" = some (some (.ref fI)) ∧ PySem.W.typeIn K (.ref fI) = some (.type "function") ∧ Binds K fd ("self" :: fs) [] ∧ FnOk P w K mg base (L2.CX P w) 1 fI fd ("self" :: fs) (spX C fs)
  len : fs.length ≤ 900
/-- the code object that makes lambdas, with its table -/
def LamAt (K : PySem.W.Frag) (mg : Str → Option Value) (base : Heap) (cd : Value) (q : Str) (tb : List (Addr × Str)) : Prop :=
  ∃ c P, cd = .ref c ∧ LamX.TabB base mg c P ∧ (P, q ++ "<lambda>") ∈ tb ∧ ∀ p ∈ tb, p.1 = P → p.2 = q ++ "<lambda>"
/-! ### def f(act): try: return (told, act()) / except C as e: return (lab, e.at) -/
structure HSh where
  told : Str
  cls : Str
  lab : Str
  at_ : Str
abbrev heardB (h : HSh) (a en : Str) (j1 j2 x1 x2 : Nat) (p1 p2 p3 p4 p5 p6 p7 p8 p9 p10 p11 p12 p13 : Pos) : List Stmt :=
  [.Try [.Return (some (.Tuple [.Constant (.str h.told) j1 p1, .Call (.Name a p2) [] [] p3] x1 p4)) p5] [.ExceptHandler (some (.Name h.cls p6)) (some en) [.Return (some (.Tuple [.Constant (.str h.lab) j2 p7, .Attribute (.Name en p8) h.at_ p9] x2 p10)) p11] p12] [] [] p13]
structure HeardAt (K : PySem.W.Frag) (mg : Str → Option Value) (x : Str) (h : HSh) : Prop where
  ex : ∃ (g CS : Addr) (fd : FuncData) (params : Arguments) (scope : Scope) (a en : Str) (j1 j2 x1 x2 : Nat) (p1 p2 p3 p4 p5 p6 p7 p8 p9 p10 p11 p12 p13 : Pos),
    mg x = some (.ref g) ∧ FunD K x x params (heardB h a en j1 j2 x1 x2 p1 p2 p3 p4 p5 p6 p7 p8 p9 p10 p11 p12 p13) scope [] [] g fd ∧ C8.scC [a, en] [a] scope = true ∧
    (∀ (kV doc pm : Value) (an : Option Addr) (cdv ct : Value) (us : List Value), us.length = 1 → bindArgs (PySem.W.fnOf x x params (heardB h a en j1 j2 x1 x2 p1 p2 p3 p4 p5 p6 p7 p8 p9 p10 p11 p12 p13) scope .none kV doc pm an cdv ct) ⟨us, []⟩ = pure ([a].zip us)) ∧
    scope.names.lookup h.cls = some .globalImplicit ∧ (h.cls == ("__debug__" : Str)) = false ∧ scope.names.lookup a = some .local ∧ scope.names.lookup en = some .local ∧
    (a == ("__debug__" : Str)) = false ∧ (a == ("__classdict__" : Str)) = false ∧ (en == ("__debug__" : Str)) = false ∧ (en == ("__classdict__" : Str)) = false ∧
    mg h.cls = some (.ref CS) ∧ XfC K CS ∧ PySem.W.findIn K (.ref CS) h.at_ = some none ∧ PySem.W.exmOne K (.ref CS) (.ref CS) = some true
open LamX
/-- what is wanted of the body -/
def TTh (K : PySem.W.Frag) (mg : Str → Option Value) (h : HSh) : (XK → Hp → VK → Prop) → Hp → VK → Prop := fun tl H Q =>
  ∃ E : XK, (∀ cls d H', E cls d H' → mg h.cls = some cls ∧ ∃ (dd : Addr) (fs : List (Str × V)) (v : V), d = some dd ∧ H' dd = some (.xd fs) ∧ fs.lookup h.at_ = some v ∧ ∀ p, H' p = none → Q (.ref p) (upd H' p (.tup [.str h.lab, v]))) ∧
    tl E H (fun v H' => ([V.str h.told, v] : List V).length ≤ sizeLine ∧ ∀ p, H' p = none → Q (.ref p) (upd H' p (.tup [.str h.told, v])))
section
variable {X : Cx}
theorem heard_gives {x q : Str} {h : HSh} {sg : Scope} {g CS : Addr} {cdg : Value} {a en : Str} {j1 j2 x1 x2 : Nat} {p1 p2 p3 p4 p5 p6 p7 p8 p9 p10 p11 p12 p13 : Pos} (hS : C8.scC [a, en] [a] sg = true) (hgc : sg.names.lookup h.cls = some .globalImplicit) (hdc : (h.cls == ("__debug__" : Str)) = false) (hen : sg.names.lookup en = some .local)
    (hed : (en == ("__debug__" : Str)) = false) (hec : (en == ("__classdict__" : Str)) = false) (hmc : X.mg h.cls = some (.ref CS)) (hxf : XfC X.K CS) (hno : PySem.W.findIn X.K (.ref CS) h.at_ = some none) (hex : PySem.W.exmOne X.K (.ref CS) (.ref CS) = some true) :
    GivesTo X [a, en] x sg g cdg (heardB h a en j1 j2 x1 x2 p1 p2 p3 p4 p5 p6 p7 p8 p9 p10 p11 p12 p13) a q (TTh X.K X.mg h) := by
  intro f c' s H Q tl act hc ⟨E0, hE0, h0⟩
  have S := C8.fnScope_by hS
  have hgl : Gl (cxOf C8.CX0 X.prog X.w X.K X.mg X.base [a, en] x sg g cdg X.A X.stack s H C8.E0).nox h.cls := hgc
  refine ⟨_, pss_one (ps_try_as (X := (cxOf C8.CX0 X.prog X.w X.K X.mg X.base [a, en] x sg g cdg X.A X.stack s H C8.E0).nox) (c := .ref CS) (i := 1) (n := en) (Wout := fun _ _ _ _ => False)
      (tb := fun W D σ H => ∃ Ech : XK, (∀ cls d σ' H', Ech cls d H' → σ'.length = 2 → W cls d σ' H') ∧ σ[0]? = some (some (.ref f)) ∧ H c' = some (CodeO c' q) ∧ tl Ech H (fun v H' => ([V.str h.told, v] : List V).length ≤ sizeLine ∧ ∀ p, H' p = none → D.rt (.ref p) (upd H' p (.tup [.str h.told, v]))))
      (ts := fun a' cls d => tRet (tTup (tCons (tC (.str h.lab)) (tCons (tXf a' cls d CS h.at_ (tVar 1)) tNil))))
      rfl rfl S.nd rfl hen ⟨hgl, hdc, .inl hmc⟩ LamX.takes0 (fun W pn xe tk _ => ?_) (fun a' oe cls d pn hz hf => pss_one (ps_ret (pe_tup (pa_cons pe_str (pa_cons (pe_xf hxf hno hz hf (pe_var (i := 1) rfl (.inl hen) hed hec)) pa_nil)))))), ?_⟩
  · refine ⟨fun pins s' σ H' D I h' => ?_⟩
    obtain ⟨Ech, hW, h1, h2, h3⟩ := h'
    have tk' : Takes ((cxOf C8.CX0 X.prog X.w X.K X.mg X.base [a, en] x sg g cdg X.A X.stack s H C8.E0).tr pn xe) (fun cls d σ' H' => σ'.length = 2 → W cls d σ' H') := fun u s2 ⟨a2, B, sI, pins2, σ2, H2, cls, d, e, I2, nb, up, sky, na, os, ag, w⟩ =>
      tk u s2 ⟨a2, B, sI, pins2, σ2, H2, cls, d, e, I2, nb, up, sky, na, os, ag, w I2.len⟩
    have hp := act _ pn xe Ech p2 p3 tk' hW
    have hq := pss_one (ps_ret (pos := p5) (pe_tup (x1 := x1) (pos := p4) (pa_cons (pe_str (x := h.told) (j := j1) (pos := p1)) (pa_cons hp pa_nil))))
    exact hq.run pins s' σ H' D I ⟨h1, h2, h3⟩
  · refine ⟨E0, fun cls d σ' H' he hl => ?_, rfl, hc, h0⟩
    obtain ⟨hm, dd, fs, v, rfl, e1, e2, hq⟩ := hE0 cls d H' he
    rw [hmc] at hm
    cases hm
    refine ⟨true, hex, fun _ a' ha => ?_, fun z => Bool.noConfusion z⟩
    refine ⟨.ref a', by rw [List.getElem?_set_self (by omega)], rfl, rfl, dd, fs, v, rfl, e1, e2, ?_⟩
    exact ⟨by unfold sizeLine; simp, hq⟩
end
end PW

set_option Elab.async false
set_option linter.all false
set_option maxRecDepth 100000
set_option maxHeartbeats 1000000
namespace PW
open PySem PySem.Spec PyProof.Rows L2

/-! ### exceptions -/
/-- an exception: its class's name, its fields -/
structure Xd where
  cls : Str
  fs : List (Str × D)
abbrev Eps := Xd → Prop
def eps0 : Eps := fun _ => False
def W.raise {α : Type} (ε : Eps) (x : Xd) : W α := ⟨fun _ => ε x, fun _ h => h⟩
theorem W.run_raise {α : Type} (ε : Eps) (x : Xd) (Q : α → Prop) : (W.raise ε x).run Q = ε x := rfl
theorem W.raise_bind {α β : Type} (ε : Eps) (x : Xd) (f : α → W β) : (W.raise ε x).bind f = W.raise ε x := rfl
inductive RpF (K : PySem.W.Frag) (mg : Str → Option Value) (z : Z) : List (Str × V) → List (Str × D) → Prop
  | nil : RpF K mg z [] []
  | cons {k : Str} {v : V} {vs : List (Str × V)} {d : D} {ds : List (Str × D)} : Rp K mg z v d → RpF K mg z vs ds → RpF K mg z ((k, v) :: vs) ((k, d) :: ds)
/-- the exception of a class, with its dict -/
def RpX (K : PySem.W.Frag) (mg : Str → Option Value) (z : Z) (H : Hp) (cls : Value) (d : Option Addr) (x : Xd) : Prop :=
  ∃ C, mg x.cls = some (.ref C) ∧ cls = .ref C ∧ ((x.fs = [] ∧ d = none) ∨ ∃ dx fs, d = some dx ∧ H dx = some (.xd fs) ∧ RpF K mg z fs x.fs)
/-- what an exception that leaves tells -/
def wx (K : PySem.W.Frag) (mg : Str → Option Value) (ε : Eps) (z : Z) (H : Hp) : XK := fun cls d H' => ∃ x z', ε x ∧ Step K z H z' H' ∧ Fct K H' ∧ RpX K mg z' H' cls d x
theorem wx_step {K : PySem.W.Frag} {mg : Str → Option Value} {ε : Eps} {z z' : Z} {H H' : Hp} (s : Step K z H z' H') {cls : Value} {d : Option Addr} {H2 : Hp} : wx K mg ε z' H' cls d H2 → wx K mg ε z H cls d H2
  | ⟨x, z2, h, st, fc, r⟩ => ⟨x, z2, h, s.trans st, fc, r⟩
theorem wx0 {K : PySem.W.Frag} {mg : Str → Option Value} {z : Z} {H : Hp} {cls : Value} {d : Option Addr} {H2 : Hp} : wx K mg eps0 z H cls d H2 → False
  | ⟨_, _, h, _⟩ => h

theorem takesF {X : Cx} {W : WX} (h : ∀ {cls d σ H}, W cls d σ H → False) : Takes X W := fun _ _ ⟨_, _, _, _, _, _, _, _, _, _, _, _, _, _, _, _, w⟩ => (h w).elim

/-! ### readings that speak of data -/
section
variable (K : PySem.W.Frag) (mg : Str → Option Value)
/-- behind an expression: a known value -/
def kV (z : Z) (H : Hp) (Q : VK) : D → Prop := fun d => ∀ v z' H', Step K z H z' H' → Fct K H' → Rp K mg z' v d → Q v H'
/-- .. a value to be used up at once -/
def kB (z : Z) (H : Hp) (Q : VK) : D → Prop := fun d => ∀ v z' H', Step K z H z' H' → Fct K H' → RB K mg z' H' v d → Q v H'
/-- .. a new object that nobody knows -/
def kF (z : Z) (H : Hp) (Q : VK) : D → Prop := fun d => ∀ a o z' H', Step K z H z' H' → Fct K H' → fr H a → z'.f a = none → ¬ z'.β a → H' a = some o → Cont K mg z' o d → Q (.ref a) H'
def kT (z : Z) (H : Hp) (Q : Bool → Hp → Prop) : Bool → Prop := fun b => ∀ z' H', Step K z H z' H' → Fct K H' → Q b H'
inductive RBs (z : Z) (H : Hp) : List V → List D → Prop
  | nil : RBs z H [] []
  | cons {v : V} {vs : List V} {d : D} {ds : List D} : RB K mg z H v d → RBs z H vs ds → RBs z H (v :: vs) (d :: ds)
def kAV (z : Z) (H : Hp) (Q : List V → Hp → Prop) : List D → Prop := fun ds => ∀ vs z' H', Step K z H z' H' → Fct K H' → RpL K mg z' vs ds → Q vs H'
def kAB (z : Z) (H : Hp) (Q : List V → Hp → Prop) : List D → Prop := fun ds => ∀ vs z' H', Step K z H z' H' → Fct K H' → RBs K mg z' H' vs ds → Q vs H'
variable (mt : Mt)
def tV (f : Env → W D) : TE := fun σ H Q => ∃ z0 H0 z ρ, EnvR mt K mg z0 H0 z H σ ρ ∧ (f ρ).run (kV K mg z H Q)
def tBr (f : Env → W D) : TE := fun σ H Q => ∃ z0 H0 z ρ, EnvR mt K mg z0 H0 z H σ ρ ∧ (f ρ).run (kB K mg z H Q)
def tFr (f : Env → W D) : TE := fun σ H Q => ∃ z0 H0 z ρ, EnvR mt K mg z0 H0 z H σ ρ ∧ (f ρ).run (kF K mg z H Q)
def tTs (f : Env → W Bool) : TT := fun σ H Q => ∃ z0 H0 z ρ, EnvR mt K mg z0 H0 z H σ ρ ∧ (f ρ).run (kT K z H Q)
def tAv (f : Env → W (List D)) : TA := fun σ H Q => ∃ z0 H0 z ρ, EnvR mt K mg z0 H0 z H σ ρ ∧ (f ρ).run (kAV K mg z H Q)
def tAb (f : Env → W (List D)) : TA := fun σ H Q => ∃ z0 H0 z ρ, EnvR mt K mg z0 H0 z H σ ρ ∧ (f ρ).run (kAB K mg z H Q)
/-- a def's promise -/
def spW (tb : List (Addr × Str)) (Φ : Eps → List D → W D) : Sp := fun vs H Q E => ∃ ε z ds, z.tb = tb ∧ ZOk K z H ∧ RpL K mg z vs ds ∧ (Φ ε ds).run (kV K mg z H Q) ∧ ∀ cls d H', wx K mg ε z H cls d H' → E cls d H'
end

/-! ### what is fixed -/
abbrev Tab := List (Str × (Eps → List D → W D))
structure TabOk (P : Program) (w : World) (K : PySem.W.Frag) (mg : Str → Option Value) (base : Heap) (tb : List (Addr × Str)) (lv : Nat) (T : Tab) : Prop where
  at_ : ∀ x Φ, (x, Φ) ∈ T → ∃ f, mg x = some (.ref f) ∧ PySem.W.keepIn K (.ref f) = true ∧ FnR P w K mg base (L2.CX P w) lv f (spW K mg tb Φ)
structure Mo where
  T : Tab
  lv : Nat
  free : List Str
  con : List (Str × D)
  eps : Eps
  xc : List (Str × List Str) := []
  lam : Bool := false
  hd : List (Str × HSh) := []
  gd : Bool := false
def Mo.nox (M : Mo) : Mo := { M with eps := eps0, lam := false, gd := false }
structure Good (M : Mo) (S : Fix) (X : Cx) : Type where
  ok : Z → Hp → Prop
  N : X.N = S.N
  nd : S.N.Nodup
  sc : X.env.scope = S.sc
  fn : X.fn = S.fn
  calm : X.calm = true
  tk : ∀ z H, ok z H → Takes X (fun cls d _ H' => wx X.K X.mg M.eps z H cls d H')
  po : PassesOwn (model X.prog X.w) X.A X.env X.xe
  tb : List (Addr × Str)
  tz : ∀ z H, ok z H → z.tb = tb
  tab : TabOk X.prog X.w X.K X.mg X.base tb M.lv M.T
  room : Room M.lv X.A
  free : ∀ x ∈ M.free, X.mg x = none
  con : ∀ x d, (x, d) ∈ M.con → ∃ v u, X.mg x = some u ∧ RelV v u ∧ ∀ z, Rp X.K X.mg z v d
  xc : ∀ p ∈ M.xc, XcOk X.prog X.w X.K X.mg X.base p.1 p.2
  lam : M.lam = true → LamAt X.K X.mg X.base X.env.code X.env.qual tb
  ltab : M.lam = true → 2 ≤ M.lv ∧ TabOk X.prog X.w X.K X.mg X.base tb (M.lv - 2) M.T
  hd : ∀ x ∈ M.hd, HeardAt X.K X.mg x.1 x.2
  gd : M.gd = true → X.A.guards = some []

def Good.m {M : Mo} {S : Fix} {X : Cx} (G : Good M S X) : Mt := ⟨S.mt, G.ok⟩
/-- looks at a scope -/
def visC (sc : Scope) (x : Str) : Bool := match sc.names.lookup x with
  | some .local => true
  | some .cell => true
  | some .free => true
  | _ => false
theorem vis_of {sc : Scope} {x : Str} (h : visC sc x = true) : Vis sc x := by
  unfold visC at h
  split at h
  · exact .inl (by assumption)
  · exact .inr (.inl (by assumption))
  · exact .inr (.inr (by assumption))
  · cases h
def locC (sc : Scope) (x : Str) : Bool := match sc.names.lookup x with
  | some .local => true
  | some .cell => true
  | _ => false
theorem loc_of {sc : Scope} {x : Str} (h : locC sc x = true) : Loc sc x := by
  unfold locC at h
  split at h
  · exact .inl (by assumption)
  · exact .inr (by assumption)
  · cases h
def fnC (S : Fix) (x : Str) : Bool := S.fn x || decide (S.sc.names.lookup x = some .local)
theorem fnC_of {S : Fix} {x : Str} (h : fnC S x = true) : S.fn x = true ∨ S.sc.names.lookup x = some .local := by
  unfold fnC at h
  rw [Bool.or_eq_true, decide_eq_true_eq] at h
  exact h
def EvV (M : Mo) (S : Fix) (e : Expr) (f : Env → W D) : Prop := ∀ X (G : Good M S X), PE X e (tV X.K X.mg G.m f)
def EvB (M : Mo) (S : Fix) (e : Expr) (f : Env → W D) : Prop := ∀ X (G : Good M S X), PE X e (tBr X.K X.mg G.m f)
def EvF (M : Mo) (S : Fix) (e : Expr) (f : Env → W D) : Prop := ∀ X (G : Good M S X), PE X e (tFr X.K X.mg G.m f)
def EvT (M : Mo) (S : Fix) (e : Expr) (f : Env → W Bool) : Prop := ∀ X (G : Good M S X), PT X e (tTs X.K X.mg G.m f)
def EvTW (M : Mo) (S : Fix) (e : Expr) (f : Env → W Bool) : Prop := ∀ X (G : Good M S X), PW X e (tTs X.K X.mg G.m f)
def EvAV (M : Mo) (S : Fix) (es : List Expr) (f : Env → W (List D)) : Prop := ∀ X (G : Good M S X), PA X es (tAv X.K X.mg G.m f)
def EvAB (M : Mo) (S : Fix) (es : List Expr) (f : Env → W (List D)) : Prop := ∀ X (G : Good M S X), PA X es (tAb X.K X.mg G.m f)

/-! ### weaker readings, with sizes known -/
section
variable {X : Cx}
theorem _root_.L2.PE.impW {e : Expr} {t t' : TE} (h : PE X e t) (hi : ∀ σ H Q, Fct X.K H → t' σ H Q → t σ H (fun v H' => Fct X.K H' → Q v H')) : PE X e t' :=
  ⟨fun pins s σ H Q I hw => thn (h.run pins s σ H _ I (hi σ H Q (fct_of I) hw)) fun _ _ ⟨v, H', I', r, q⟩ => ⟨v, H', I', r, q (fct_of I')⟩⟩
theorem _root_.L2.PT.impW {e : Expr} {t t' : TT} (h : PT X e t) (hi : ∀ σ H Q, Fct X.K H → t' σ H Q → t σ H (fun v H' => Fct X.K H' → Q v H')) : PT X e t' :=
  ⟨fun pins s σ H Q I hw => thn (h.run pins s σ H _ I (hi σ H Q (fct_of I) hw)) fun _ _ ⟨H', I', q⟩ => ⟨H', I', q (fct_of I')⟩⟩
theorem PWi {e : Expr} {t t' : TT} (h : PW X e t) (hi : ∀ σ H Q, Fct X.K H → t' σ H Q → t σ H (fun v H' => Fct X.K H' → Q v H')) : PW X e t' :=
  ⟨fun whole pins s σ H Q I hw => thn (h.run whole pins s σ H _ I (hi σ H Q (fct_of I) hw)) fun _ _ ⟨H', I', q⟩ => ⟨H', I', q (fct_of I')⟩⟩
theorem _root_.L2.PA.impW {es : List Expr} {t t' : TA} (h : PA X es t) (hi : ∀ σ H Q, Fct X.K H → t' σ H Q → t σ H (fun v H' => Fct X.K H' → Q v H')) : PA X es t' :=
  ⟨fun pos pins s σ H Q I hw => thn (h.run pos pins s σ H _ I (hi σ H Q (fct_of I) hw)) fun _ _ ⟨v, H', I', r, q⟩ => ⟨v, H', I', r, q (fct_of I')⟩⟩
end

section
variable {M : Mo} {S : Fix} {e a b c : Expr} {es : List Expr} {f g h : Env → W D} {pos : Pos}
theorem EvV.toB (he : EvV M S e f) : EvB M S e f := fun X G => (he X G).impW fun σ H Q _ ⟨z0, H0, z, ρ, E, h⟩ =>
  ⟨z0, H0, z, ρ, E, (f ρ).mono (fun d k v z' H' st fc r _ => k v z' H' st fc (.inl r)) h⟩
theorem EvF.toV (he : EvF M S e f) : EvV M S e f := fun X G => (he X G).impW fun σ H Q _ ⟨z0, H0, z, ρ, E, h⟩ =>
  ⟨z0, H0, z, ρ, E, (f ρ).mono (fun d k a o z' H' st fc hn hf hβ ho c _ => by
    have ok := st.ok.freeze hf hβ ho c.nt.nb
    refine k (.ref a) (z'.put a o) H' ⟨st.le.trans (Z.le_put hf), ok, st.keep, fun x o' h1 h2 h3 => ?_, fun x e => st.βn x e⟩ fc ((c.le (Z.le_put hf)).rp Z.put_at)
    show upd z'.f a o x = none
    rw [upd_ne (ne_of_fr h2 h3.nb hn)]
    exact st.new x o' h1 h2 h3) h⟩
theorem ev_never : EvV M S e fun _ => W.fail := fun X G => ⟨fun _ _ _ _ _ _ ⟨_, _, _, _, _, h⟩ => (show False from h).elim⟩

/-! ### names, constants -/
def getV (ρ : Env) (i : Nat) : W D := W.some? (ρ[i]?.join)
theorem getV_run {ρ : Env} {i : Nat} {Q : D → Prop} (h : (getV ρ i).run Q) : ∃ d, ρ[i]? = some (some d) ∧ Q d := by
  unfold getV at h
  cases q : ρ[i]? with
  | none => rw [q] at h; exact (show False from h).elim
  | some o =>
    rw [q] at h
    cases o with
    | none => exact (show False from h).elim
    | some d => exact ⟨d, rfl, h⟩
theorem v_var (i : Nat) {x : Str} (hN : S.N[i]? = some x := by kernel_rfl) (hv : visC S.sc x = true := by kernel_rfl) (hi : S.mt.contains i = false := by kernel_rfl)
    (hd : (x == ("__debug__" : Str)) = false := by kernel_rfl) (hcd : (x == ("__classdict__" : Str)) = false := by kernel_rfl) : EvV M S (.Name x pos) (fun ρ => getV ρ i) := fun X G => by
  refine (pe_var (i := i) (by rw [G.N]; exact hN) (by rw [G.sc]; exact vis_of hv) hd hcd).impW fun σ H Q fc ⟨z0, H0, z, ρ, E, h⟩ => ?_
  obtain ⟨d, e, k⟩ := getV_run h
  obtain ⟨v, e2, r⟩ := E.val i d (fun m => by rw [List.contains_iff_mem.mpr (show i ∈ S.mt from m)] at hi; cases hi) e
  exact ⟨v, e2, fun _ => k v z H (Step.refl E.ok) fc r⟩
theorem b_var (i : Nat) {x : Str} (hN : S.N[i]? = some x := by kernel_rfl) (hv : visC S.sc x = true := by kernel_rfl)
    (hd : (x == ("__debug__" : Str)) = false := by kernel_rfl) (hcd : (x == ("__classdict__" : Str)) = false := by kernel_rfl) : EvB M S (.Name x pos) (fun ρ => getV ρ i) := fun X G => by
  refine (pe_var (i := i) (by rw [G.N]; exact hN) (by rw [G.sc]; exact vis_of hv) hd hcd).impW fun σ H Q fc ⟨z0, H0, z, ρ, E, h⟩ => ?_
  obtain ⟨d, e, k⟩ := getV_run h
  by_cases hi : i ∈ S.mt
  · obtain ⟨v, e2, r⟩ := E.own i d hi e
    exact ⟨v, e2, fun _ => k v z H (Step.refl E.ok) fc r.rb⟩
  · obtain ⟨v, e2, r⟩ := E.val i d hi e
    exact ⟨v, e2, fun _ => k v z H (Step.refl E.ok) fc (.inl r)⟩
theorem v_int {i : Int} {j : Nat} : EvV M S (.Constant (.int i) j pos) (fun _ => W.pure (.int i)) := fun X G => pe_int.impW fun σ H Q fc ⟨z0, H0, z, ρ, E, h⟩ => fun _ => h _ z H (Step.refl E.ok) fc (.int i)
theorem v_bl {i : Bool} {j : Nat} : EvV M S (.Constant (.bool i) j pos) (fun _ => W.pure (.bl i)) := fun X G => pe_bl.impW fun σ H Q fc ⟨z0, H0, z, ρ, E, h⟩ => fun _ => h _ z H (Step.refl E.ok) fc (.bl i)
theorem v_non {j : Nat} : EvV M S (.Constant .none j pos) (fun _ => W.pure .non) := fun X G => pe_non.impW fun σ H Q fc ⟨z0, H0, z, ρ, E, h⟩ => fun _ => h _ z H (Step.refl E.ok) fc .non
theorem v_str {i : Str} {j : Nat} : EvV M S (.Constant (.str i) j pos) (fun _ => W.pure (.str i)) := fun X G => pe_str.impW fun σ H Q fc ⟨z0, H0, z, ρ, E, h⟩ => fun _ => h _ z H (Step.refl E.ok) fc (.str i)
theorem gl_of {X : Cx} (G : Good M S X) {x : Str} (h : S.sc.names.lookup x = some .globalImplicit) : Gl X x := by
  show X.env.scope.names.lookup x = _
  rw [G.sc]
  exact h
/-- a constant of the module, a def of it as a value -/
theorem v_con {x : Str} {d : D} (j : Nat) (hc : M.con[j]? = some (x, d) := by rfl) (hg : S.sc.names.lookup x = some .globalImplicit := by kernel_rfl) (hd : (x == ("__debug__" : Str)) = false := by kernel_rfl) : EvV M S (.Name x pos) (fun _ => W.pure d) := fun X G => by
  obtain ⟨v, u, hm, r, hr⟩ := G.con x d (List.mem_of_getElem? hc)
  exact (pe_glob (gl_of G hg) hm r hd).impW fun σ H Q fc ⟨z0, H0, z, ρ, E, h⟩ => fun _ => h v z H (Step.refl E.ok) fc (hr z)
theorem v_fn {x : Str} (j : Nat) (Φ : Eps → List D → W D) (hT : M.T[j]? = some (x, Φ) := by rfl) (hg : S.sc.names.lookup x = some .globalImplicit := by kernel_rfl) (hd : (x == ("__debug__" : Str)) = false := by kernel_rfl) : EvV M S (.Name x pos) (fun _ => W.pure (.fn x)) := fun X G => by
  obtain ⟨f, hm, hk, _⟩ := G.tab.at_ x Φ (List.mem_of_getElem? hT)
  exact (pe_glob (gl_of G hg) hm (v := V.ref f) rfl hd).impW fun σ H Q fc ⟨z0, H0, z, ρ, E, h⟩ => fun _ => h _ z H (Step.refl E.ok) fc (.fn hm hk)
theorem v_ty {x : Str} {T : String} (hf : decide (x ∈ M.free) = true := by kernel_rfl) (hv : bootBuiltins x = some (.type T) := by kernel_rfl) (hg : S.sc.names.lookup x = some .globalImplicit := by kernel_rfl) (hn : decide (x ≠ "__name__") = true := by kernel_rfl)
    (hd : (x == ("__debug__" : Str)) = false := by kernel_rfl) : EvV M S (.Name x pos) (fun _ => W.pure (.ty T)) := fun X G =>
  (pe_bltn (gl_of G hg) (G.free x (of_decide_eq_true hf)) hv (v := V.ty T) rfl (of_decide_eq_true hn) hd).impW fun σ H Q fc ⟨z0, H0, z, ρ, E, h⟩ => fun _ => h _ z H (Step.refl E.ok) fc (.ty T)

/-! ### argument lists -/
variable {fs : Env → W (List D)}
theorem RBs.step {K : PySem.W.Frag} {mg : Str → Option Value} {z z' : Z} {H H' : Hp} (s : Step K z H z' H') : ∀ {v : List V} {d : List D}, RBs K mg z H v d → RBs K mg z' H' v d
  | _, _, .nil => .nil
  | _, _, .cons h r => .cons (h.step s) (RBs.step s r)
theorem RpL.rbs {K : PySem.W.Frag} {mg : Str → Option Value} {z : Z} {H : Hp} : ∀ {v : List V} {d : List D}, RpL K mg z v d → RBs K mg z H v d
  | _, _, .nil => .nil
  | _, _, .cons h r => .cons (.inl h) (RpL.rbs r)
theorem av_nil : EvAV M S [] fun _ => W.pure [] := fun X G => pa_nil.impW fun σ H Q fc ⟨z0, H0, z, ρ, E, h⟩ => fun _ => h [] z H (Step.refl E.ok) fc .nil
theorem ab_nil : EvAB M S [] fun _ => W.pure [] := fun X G => pa_nil.impW fun σ H Q fc ⟨z0, H0, z, ρ, E, h⟩ => fun _ => h [] z H (Step.refl E.ok) fc .nil
theorem av_cons (he : EvV M S e f) (hs : EvAV M S es fs) (hst : ∀ env, starEach (e :: es) env = (false, eval e env) :: starEach es env := by intro _; kernel_rfl) : EvAV M S (e :: es) fun ρ => (f ρ).bind fun d => (fs ρ).bind fun ds => W.pure (d :: ds) := fun X G => by
  refine (pa_cons (he X G) (hs X G) (hst _)).impW fun σ H Q fc ⟨z0, H0, z, ρ, E, h⟩ => ?_
  refine ⟨z0, H0, z, ρ, E, (f ρ).mono (fun d k v z1 H1 st1 fc1 r1 => ?_) h⟩
  refine ⟨z0, H0, z1, ρ, E.step st1, (fs ρ).mono (fun ds k2 vs z2 H2 st2 fc2 r2 => ?_) k⟩
  exact fun _ => k2 (v :: vs) z2 H2 (st1.trans st2) fc2 (.cons (r1.le st2.le) r2)
theorem ab_cons (he : EvB M S e f) (hs : EvAB M S es fs) (hst : ∀ env, starEach (e :: es) env = (false, eval e env) :: starEach es env := by intro _; kernel_rfl) : EvAB M S (e :: es) fun ρ => (f ρ).bind fun d => (fs ρ).bind fun ds => W.pure (d :: ds) := fun X G => by
  refine (pa_cons (he X G) (hs X G) (hst _)).impW fun σ H Q fc ⟨z0, H0, z, ρ, E, h⟩ => ?_
  refine ⟨z0, H0, z, ρ, E, (f ρ).mono (fun d k v z1 H1 st1 fc1 r1 => ?_) h⟩
  refine ⟨z0, H0, z1, ρ, E.step st1, (fs ρ).mono (fun ds k2 vs z2 H2 st2 fc2 r2 => ?_) k⟩
  exact fun _ => k2 (v :: vs) z2 H2 (st1.trans st2) fc2 (.cons (r1.step st2) r2)
/-- what *x gives -/
def D.items : D → W (List D)
  | .tup xs => W.pure xs
  | .lst xs => W.pure xs
  | _ => W.fail
theorem RB.items {K : PySem.W.Frag} {mg : Str → Option Value} {z : Z} {H : Hp} {v : V} {d : D} {Q : List D → Prop} (ok : ZOk K z H) (r : RB K mg z H v d) (h : d.items.run Q) :
    ∃ a vs ds, v = .ref a ∧ (SqT K H a vs ∨ SqL K H a vs) ∧ RpL K mg z vs ds ∧ Q ds := by
  cases d with
  | tup ds =>
    obtain ⟨a, vs, e, q, r⟩ := r.tup ok
    exact ⟨a, vs, ds, e, .inl (.of q), r, h⟩
  | lst ds =>
    obtain ⟨a, vs, e, q, r⟩ := r.lst ok
    exact ⟨a, vs, ds, e, .inr (.of q), r, h⟩
  | _ => exact (show False from h).elim
theorem av_star {p : Pos} (he : EvB M S e f) (hs : EvAV M S es fs) (hst : ∀ env, starEach (.Starred e p :: es) env = (true, eval e env) :: starEach es env := by intro _; kernel_rfl) :
    EvAV M S (.Starred e p :: es) fun ρ => (f ρ).bind fun d => d.items.bind fun xs => (fs ρ).bind fun ds => W.pure (xs ++ ds) := fun X G => by
  refine (StX.pa_star (he X G) (hs X G) (hst _)).impW fun σ H Q fc ⟨z0, H0, z, ρ, E, h⟩ => ?_
  refine ⟨z0, H0, z, ρ, E, (f ρ).mono (fun d k v z1 H1 st1 fc1 r1 => ?_) h⟩
  obtain ⟨a, vs, ds, e, q, r, k⟩ := r1.items st1.ok k
  refine ⟨a, vs, e, q, z0, H0, z1, ρ, E.step st1, (fs ρ).mono (fun ds2 k2 ws z2 H2 st2 fc2 r2 => ?_) k⟩
  exact fun _ => k2 (vs ++ ws) z2 H2 (st1.trans st2) fc2 ((r.le st2.le).append r2)

/-! ### displays -/
theorem kV_new {K : PySem.W.Frag} {mg : Str → Option Value} {z z' : Z} {H H' : Hp} {Q : VK} {d : D} {p : Addr} {o : HO} (k : kV K mg z H Q d) (st : Step K z H z' H') (fc : Fct K (upd H' p o)) (hp : H' p = none) (r : Rp K mg (z'.put p o) (.ref p) d) (hnb : o.nb := by trivial) : Q (.ref p) (upd H' p o) :=
  k (.ref p) (z'.put p o) (upd H' p o) (st.trans (Step.put st.ok hp hnb)) fc r
theorem v_tup {x1 : Nat} (hs : EvAV M S es fs) : EvV M S (.Tuple es x1 pos) fun ρ => (fs ρ).bind fun ds => (W.need (ds.length ≤ sizeLine)).bind fun _ => W.pure (.tup ds) := fun X G => by
  refine (pe_tup (hs X G)).impW fun σ H Q fc ⟨z0, H0, z, ρ, E, h⟩ => ?_
  refine ⟨z0, H0, z, ρ, E, (fs ρ).mono (fun ds k vs z1 H1 st1 fc1 r1 => ?_) h⟩
  obtain ⟨hz, k⟩ := k
  exact ⟨by rw [r1.length]; exact hz, fun p hp fc2 => kV_new k st1 fc2 hp (.tup Z.put_at (r1.le (Z.le_put (st1.ok.free hp))))⟩
theorem f_lst (hs : EvAV M S es fs) : EvF M S (.List es pos) fun ρ => (fs ρ).bind fun ds => (W.need (ds.length ≤ sizeLine)).bind fun _ => W.pure (.lst ds) := fun X G => by
  refine (pe_lst (hs X G)).impW fun σ H Q fc ⟨z0, H0, z, ρ, E, h⟩ => ?_
  refine ⟨z0, H0, z, ρ, E, (fs ρ).mono (fun ds k vs z1 H1 st1 fc1 r1 => ?_) h⟩
  obtain ⟨hz, k⟩ := k
  refine ⟨by rw [r1.length]; exact hz, fun p hp fc2 => ?_⟩
  have hn : fr H p := st1.was hp
  exact k p _ z1 _ (st1.trans (Step.fresh st1.ok hp)) fc2 hn (st1.ok.free hp) (st1.ok.nβ hp) upd_same (.lst r1)
end
end PW

set_option Elab.async false
set_option linter.all false
set_option maxRecDepth 100000
set_option maxHeartbeats 1000000
namespace PySem
section
variable {prog : Program} {w : World} {K : Type} [DecidableEq K] {knd : HeapKind prog w K} {A : Around} {E : Value → Shared → Prop} {s : Shared}
/-- a dict with tuple keys as a test -/
theorem pw_truthy_dictH {d : Addr} {xs : List (K × Addr × Value)} {Q : Bool → Shared → Prop} (hd : (d == sysModules) = false) (hm : s.heap.DictOfH knd d xs) (hfit : (xs.length : Int) < 2 ^ 63)
    (h : Q (!xs.isEmpty) { s with toks := s.toks + 1 + 1 }) : wpAny (model prog w) A (truthy (.ref d)) Q E s := by
  have hne : ((xs.length : Int) != 0) = !xs.isEmpty := by cases xs <;> simp <;> omega
  have key : wpAny (model prog w) A (runValue (.builtin "len" ⟨[.ref d], []⟩)) (fun r s' => r = .int xs.length (s.toks + 1) ∧ Q (!xs.isEmpty) s') E s := by
    refine wpAny_runValue (codeAny_builtin entry_len ?_)
    rw [Around.under_plainId plain_len _]
    exact wpAny_mono (wpAny_len_body_dictH (Q := fun r s' => r = .int xs.length (s.toks + 1) ∧ Q (!xs.isEmpty) s') hd hm hfit ⟨rfl, h⟩) (fun fin s' h' => by obtain ⟨r, rfl, hq⟩ := h'; exact hq) fun _ _ e => e
  have fin : wpAny (model prog w) A (runValue (.builtin "len" ⟨[.ref d], []⟩)) (fun r s' => r = .int xs.length (s.toks + 1) ∧ Q ((xs.length : Int) != 0) s') E s := by rw [hne]; exact key
  unfold truthy
  have hb := noBool_dict
  first
    | refine wpAny_bind (wpAny_callSpecial?_none (name := Str.ofString "__bool__") hm.typeIs noBool_dict ?_)
    | refine wpAny_bind (wpAny_pure (wpAny_bind (wpAny_callSpecial?_none (name := Str.ofString "__bool__") hm.typeIs noBool_dict ?_)))
  first
    | refine wpAny_bind (wpAny_specialOf (name := Str.ofString "__len__") hm.typeIs F.slot_dict_len.lookup ?_)
    | refine wpAny_bind (wpAny_pure (wpAny_bind (wpAny_specialOf (name := Str.ofString "__len__") hm.typeIs F.slot_dict_len.lookup ?_)))
  first
    | exact wpAny_bind (wpAny_mono fin (fun r s' h' => by obtain ⟨rfl, hq⟩ := h'; exact wpAny_pure hq) fun _ _ e => e)
    | exact wpAny_bind (wpAny_pure (wpAny_bind (wpAny_mono fin (fun r s' h' => by obtain ⟨rfl, hq⟩ := h'; exact wpAny_pure hq) fun _ _ e => e)))
end
end PySem
namespace PW
open PySem PySem.Spec PyProof.Rows L2

theorem kV.step {K : PySem.W.Frag} {mg : Str → Option Value} {z z2 : Z} {H H2 : Hp} {Q : VK} {d : D} (st : Step K z H z2 H2) (k : kV K mg z H Q d) : kV K mg z2 H2 Q d := fun v z' H' s2 => k v z' H' (st.trans s2)
theorem kV.now {K : PySem.W.Frag} {mg : Str → Option Value} {z : Z} {H : Hp} {Q : VK} {d : D} {v : V} (k : kV K mg z H Q d) (ok : ZOk K z H) (fc : Fct K H) (r : Rp K mg z v d) : Q v H := k v z H (Step.refl ok) fc r

/-! ### operators by values -/
def OpV (X : Cx) (r : R2) (w : D → D → W D) : Prop := ∀ {z : Z} {H : Hp} {x y : V} {d e : D} {Q : VK}, Fct X.K H → ZOk X.K z H → RB X.K X.mg z H x d → RB X.K X.mg z H y e → (w d e).run (kV X.K X.mg z H Q) → r x y H (fun v H' => Fct X.K H' → Q v H')
def OpE (M : Mo) (S : Fix) (fn : Value → Value → Sem Value) (w : D → D → W D) : Prop := ∀ X (G : Good M S X), ∃ r, OpR X fn r ∧ OpV X r w
theorem opR_fct {X : Cx} {fn : Value → Value → Sem Value} {r : R2} (h : OpR X fn r) : OpR X fn (fun x y H Q => r x y H (fun v H' => Fct X.K H' → Q v H')) := fun pins s σ H x y v u Q I rx ry q =>
  thn (h pins s σ H x y v u _ I rx ry q) fun _ _ ⟨v, H', I', r, q⟩ => ⟨v, H', I', r, q (fct_of I')⟩
def D.tr : D → W Bool
  | .bl b => W.pure b
  | _ => W.fail
theorem tr_run {d : D} {Q : Bool → Prop} (h : d.tr.run Q) : ∃ b, d = .bl b ∧ Q b := by
  cases d with
  | bl b => exact ⟨b, rfl, h⟩
  | _ => exact (show False from h).elim
section
variable {M : Mo} {S : Fix} {e a b c : Expr} {es : List Expr} {f g h : Env → W D} {pos : Pos} {w w' : D → D → W D}
theorem bin_t {X : Cx} {mt : Mt} {r : R2} (hv : OpV X r w) {σ : Sg} {H : Hp} {Q : VK} (hh : ∃ z0 H0 z ρ, EnvR mt X.K X.mg z0 H0 z H σ ρ ∧ ((f ρ).bind fun d => (g ρ).bind fun e => w d e).run (kV X.K X.mg z H Q)) :
    tOp r (tBr X.K X.mg mt f) (tBr X.K X.mg mt g) σ H (fun v H' => Fct X.K H' → Q v H') := by
  obtain ⟨z0, H0, z, ρ, E, h⟩ := hh
  refine ⟨z0, H0, z, ρ, E, (f ρ).mono (fun d k x z1 H1 st1 fc1 r1 => ?_) h⟩
  refine ⟨z0, H0, z1, ρ, E.step st1, (g ρ).mono (fun e k2 y z2 H2 st2 fc2 r2 => ?_) k⟩
  exact hv fc2 st2.ok (r1.step st2) r2 ((w d e).mono (fun d k => k.step (st1.trans st2)) k2)
theorem v_bin {op : Operator} (ho : OpE M S (binaryOp op) w) (ha : EvB M S a f) (hb : EvB M S b g) : EvV M S (.BinOp a op b pos) fun ρ => (f ρ).bind fun d => (g ρ).bind fun e => w d e := fun X G => by
  obtain ⟨r, ho, hv⟩ := ho X G
  exact (pe_op ho (ha X G) (hb X G)).impW fun σ H Q fc h => bin_t hv h
theorem v_cmp {op : CmpOp} (ho : OpE M S (compareOp op) w) (ha : EvB M S a f) (hb : EvB M S b g) (hm : behindInMarks op b = false := by kernel_rfl) : EvV M S (.Compare a [op] [b] pos) fun ρ => (f ρ).bind fun d => (g ρ).bind fun e => w d e := fun X G => by
  obtain ⟨r, ho, hv⟩ := ho X G
  exact (pe_cmpR ho (ha X G) (hb X G) hm).impW fun σ H Q fc h => bin_t hv h
theorem t_cmp {op : CmpOp} (ho : OpE M S (compareOp op) w) (ha : EvB M S a f) (hb : EvB M S b g) (hm : behindInMarks op b = false := by kernel_rfl) : EvT M S (.Compare a [op] [b] pos) fun ρ => (f ρ).bind fun d => (g ρ).bind fun e => (w d e).bind D.tr := fun X G => by
  obtain ⟨r, ho, hv⟩ := ho X G
  refine (pt_cmpR (opR_fct ho) (ha X G) (hb X G) hm).impW fun σ H Q fc hh => ?_
  obtain ⟨z0, H0, z, ρ, E, h⟩ := hh
  refine ⟨z0, H0, z, ρ, E, (f ρ).mono (fun d k x z1 H1 st1 fc1 r1 => ?_) h⟩
  refine ⟨z0, H0, z1, ρ, E.step st1, (g ρ).mono (fun e k2 y z2 H2 st2 fc2 r2 => ?_) k⟩
  have q := hv (Q := fun v H' => ∃ k, v = .bl k ∧ (Fct X.K H' → Q k H')) fc2 st2.ok (r1.step st2) r2 ((w d e).mono (fun d k v z' H' st fc r => by
    obtain ⟨b, rfl, k⟩ := tr_run k
    cases r
    exact ⟨b, rfl, fun fc => k z' H' ((st1.trans st2).trans st) fc⟩) k2)
  exact q
/-- a op b op' c, by values of bool -/
theorem v_chain {op op' : CmpOp} (ho : OpE M S (compareOp op) w) (ho' : OpE M S (compareOp op') w') (ha : EvB M S a f) (hb : EvB M S b g) (hc : EvB M S c h) (hm : lastMarks [op, op'] [b, c] = false := by kernel_rfl) :
    EvV M S (.Compare a [op, op'] [b, c] pos) fun ρ => (f ρ).bind fun d => (g ρ).bind fun e => (w d e).bind fun k => k.tr.bind fun k => if k = true then (h ρ).bind fun e' => w' e e' else W.pure (.bl false) := fun X G => by
  obtain ⟨r, ho, hv⟩ := ho X G
  obtain ⟨r', ho', hv'⟩ := ho' X G
  refine (pe_chain (opR_fct ho) (opR_fct ho') (ha X G) (hb X G) (hc X G) hm).impW fun σ H Q fc hh => ?_
  obtain ⟨z0, H0, z, ρ, E, hr⟩ := hh
  refine ⟨z0, H0, z, ρ, E, (f ρ).mono (fun d k x z1 H1 st1 fc1 r1 => ?_) hr⟩
  refine ⟨z0, H0, z1, ρ, E.step st1, (g ρ).mono (fun e k2 y z2 H2 st2 fc2 r2 => ?_) k⟩
  refine hv (Q := fun v H' => ∃ k, v = .bl k ∧ _) fc2 st2.ok (r1.step st2) r2 ((w d e).mono (fun d k v z3 H3 st3 fc3 r => ?_) k2)
  obtain ⟨b, rfl, k⟩ := tr_run k
  cases r
  refine ⟨b, rfl, ?_⟩
  have st13 := (st1.trans st2).trans st3
  cases b with
  | false =>
    rw [if_neg Bool.false_ne_true]
    exact fun fc => k (.bl false) z3 H3 st13 fc (.bl false)
  | true =>
    rw [if_pos rfl]
    refine ⟨z0, H0, z3, ρ, E.step st13, (h ρ).mono (fun e' k3 x3 z4 H4 st4 fc4 r4 => ?_) k⟩
    exact hv' (Q := fun v H' => Fct X.K H' → Q v H') fc4 st4.ok ((r2.step st3).step st4) r4 ((w' e e').mono (fun d k v z' H' st fc r _ => k v z' H' ((st13.trans st4).trans st) fc r) k3)

/-! ### tests -/
/-- what a value is as a test -/
def D.truth : D → W Bool
  | .bl b => W.pure b
  | .non => W.pure false
  | .int i => W.pure (i != 0)
  | .lst xs => W.pure (!xs.isEmpty)
  | .tup xs => W.pure (!xs.isEmpty)
  | .dK kvs => W.pure (!kvs.isEmpty)
  | .dT kvs => W.pure (!kvs.isEmpty)
  | _ => W.fail
/-- a value as a test: what the kit knows, or a dict with tuple keys -/
def TruW (K : PySem.W.Frag) (x : V) (H : Hp) (k : Bool) : Prop := TruV K x H k ∨ ∃ p kvs, x = .ref p ∧ H p = some (.dT kvs) ∧ k = !kvs.isEmpty
theorem tru_okW {X : Cx} : TruR X (fun x H Q => ∃ k, TruW X.K x H k ∧ Q k H) := by
  intro pins s σ H x v Q I rx h
  obtain ⟨k, h | ⟨p, kvs, rfl, hp, rfl⟩, q⟩ := h
  · exact tru_ok pins s σ H x v Q I rx ⟨k, h, q⟩
  · cases rx
    obtain ⟨z, hd, ys, rel, dd⟩ := dt_of I.hok hp
    have hl : kvs.length = ys.length := Paired.length rel
    have he : kvs.isEmpty = ys.isEmpty := by cases kvs <;> cases ys <;> first | rfl | (simp at hl)
    exact pw_truthy_dictH hd dd (by rw [← hl]; rw [sizeLine_eq] at z; omega) ⟨H, I.tok _, by rw [← he]; exact q⟩
theorem pt_truthW {X : Cx} {a : Expr} {ta : TE} (ha : PE X a ta) (he : ∀ whole, isTrue a X.env whole = (do let v ← whole; standAt a.pos; holding [v] (truthy v))) :
    PT X a (fun σ H Q => ta σ H fun x H' => ∃ k, TruW X.K x H' k ∧ Q k H') := by
  refine ⟨fun pins s σ H Q I h => ?_⟩
  exact isTrue_plain (thn (ha.run pins s σ H _ I h) fun v s1 ⟨x, H1, I1, r1, q1⟩ => tru_okW pins s1 σ H1 x v Q I1 r1 q1) (he _)
def tNotW (K : PySem.W.Frag) (ta : TE) : TE := fun σ H Q => ta σ H fun x H1 => ∃ k, TruW K x H1 k ∧ Q (.bl (!k)) H1
theorem pe_notW {X : Cx} {a : Expr} {ta : TE} {pos : Pos} (ha : PE X a ta) : PE X (.UnaryOp .Not a pos) (tNotW X.K ta) := by
  refine ⟨fun pins s σ H Q I h => ?_⟩
  refine UnaryOp_ (thn (ha.run pins s σ H _ I h) fun v s1 ⟨x, H1, I1, r1, q1⟩ => ?_)
  obtain ⟨k, e, q1⟩ := q1
  exact not_of (thn (tru_okW pins s1 σ H1 x v (fun c H2 => Q (.bl (!c)) H2) I1 r1 ⟨k, e, q1⟩) fun c s2 ⟨H2, I2, q2⟩ => ⟨.bl (!c), H2, I2, rfl, q2⟩)
theorem RpK.isEmpty {K : PySem.W.Frag} {mg : Str → Option Value} {z : Z} : ∀ {v : List (Key × V)} {d : List (Key × D)}, RpK K mg z v d → v.isEmpty = d.isEmpty
  | _, _, .nil => rfl
  | _, _, .cons _ _ => rfl
theorem RpT.isEmpty {K : PySem.W.Frag} {mg : Str → Option Value} {z : Z} : ∀ {v : List (List Key × V)} {d : List (List Key × D)}, RpT K mg z v d → v.isEmpty = d.isEmpty
  | _, _, .nil => rfl
  | _, _, .cons _ _ => rfl
theorem RpL.isEmpty {K : PySem.W.Frag} {mg : Str → Option Value} {z : Z} : ∀ {v : List V} {d : List D}, RpL K mg z v d → v.isEmpty = d.isEmpty
  | _, _, .nil => rfl
  | _, _, .cons _ _ => rfl
theorem truth_run {K : PySem.W.Frag} {mg : Str → Option Value} {z : Z} {H : Hp} {x : V} {d : D} {Q : Bool → Prop} (ok : ZOk K z H) (r : RB K mg z H x d) (h : d.truth.run Q) : ∃ b, TruW K x H b ∧ Q b := by
  cases d with
  | bl b => rw [r.bl]; exact ⟨b, .inl rfl, h⟩
  | non => rw [r.non]; exact ⟨false, .inl rfl, h⟩
  | int i => rw [r.int]; exact ⟨_, .inl rfl, h⟩
  | lst ds =>
    obtain ⟨a, vs, rfl, q, r⟩ := r.lst ok
    exact ⟨_, .inl (.inl ⟨vs, .of q, rfl⟩), by rw [r.isEmpty]; exact h⟩
  | tup ds =>
    obtain ⟨a, vs, rfl, q, r⟩ := r.tup ok
    exact ⟨_, .inl (.inr (.inl ⟨vs, .of q, rfl⟩)), by rw [r.isEmpty]; exact h⟩
  | dK ds =>
    obtain ⟨a, kvs, rfl, q, r⟩ := r.dK ok
    exact ⟨_, .inl (.inr (.inr ⟨kvs, q, rfl⟩)), by rw [r.isEmpty]; exact h⟩
  | dT ds =>
    obtain ⟨a, kvs, rfl, q, r⟩ := r.dT ok
    exact ⟨_, .inr ⟨a, kvs, rfl, q, rfl⟩, by rw [r.isEmpty]; exact h⟩
  | _ => exact (show False from h).elim
variable {p q : Env → W Bool}
theorem t_val (ha : EvB M S a f) (he : ∀ env whole, isTrue a env whole = (do let v ← whole; standAt a.pos; holding [v] (truthy v)) := by intro _ _; kernel_rfl) : EvT M S a fun ρ => (f ρ).bind D.truth := fun X G => by
  refine (pt_truthW (ha X G) (he _)).impW fun σ H Q fc ⟨z0, H0, z, ρ, E, h⟩ => ⟨z0, H0, z, ρ, E, (f ρ).mono (fun d k x z1 H1 st1 fc1 r1 => ?_) h⟩
  obtain ⟨b, tv, k⟩ := truth_run st1.ok r1 k
  exact ⟨b, tv, fun _ => k z1 H1 st1 fc1⟩
theorem kT.step {K : PySem.W.Frag} {z z2 : Z} {H H2 : Hp} {Q : Bool → Hp → Prop} {b : Bool} (st : Step K z H z2 H2) (k : kT K z H Q b) : kT K z2 H2 Q b := fun z' H' s2 => k z' H' (st.trans s2)
theorem EvTW.t (h : EvTW M S a p) : EvT M S a p := fun X G => (h X G).pt
theorem t_not (ha : EvT M S a p) : EvT M S (.UnaryOp .Not a pos) fun ρ => (p ρ).bind fun b => W.pure !b := fun X G =>
  (pt_not (ha X G)).impW fun σ H Q fc ⟨z0, H0, z, ρ, E, h⟩ => ⟨z0, H0, z, ρ, E, (p ρ).mono (fun d k z1 H1 st1 fc1 _ => k z1 H1 st1 fc1) h⟩
theorem tw_and1 (ha : EvT M S a p) : EvTW M S (.BoolOp .And [a] pos) p := fun X G => pw_and1 (ha X G)
theorem tw_or1 (ha : EvT M S a p) : EvTW M S (.BoolOp .Or [a] pos) p := fun X G => pw_or1 (ha X G)
theorem tw_and {rest : List Expr} (ha : EvT M S a p) (hb : EvTW M S (.BoolOp .And (b :: rest) pos) q) : EvTW M S (.BoolOp .And (a :: b :: rest) pos) fun ρ => (p ρ).bind fun k => if k = true then q ρ else W.pure false := fun X G => by
  refine PWi (pw_and (ha X G) (hb X G)) fun σ H Q fc ⟨z0, H0, z, ρ, E, h⟩ => ⟨z0, H0, z, ρ, E, (p ρ).mono (fun d k z1 H1 st1 fc1 => ?_) h⟩
  cases d with
  | false =>
    rw [if_neg Bool.false_ne_true]
    exact fun _ => k z1 H1 st1 fc1
  | true =>
    rw [if_pos rfl]
    exact ⟨z0, H0, z1, ρ, E.step st1, (q ρ).mono (fun d k z2 H2 st2 fc2 _ => k z2 H2 (st1.trans st2) fc2) k⟩
theorem tw_or {rest : List Expr} (ha : EvT M S a p) (hb : EvTW M S (.BoolOp .Or (b :: rest) pos) q) : EvTW M S (.BoolOp .Or (a :: b :: rest) pos) fun ρ => (p ρ).bind fun k => if k = true then W.pure true else q ρ := fun X G => by
  refine PWi (pw_or (ha X G) (hb X G)) fun σ H Q fc ⟨z0, H0, z, ρ, E, h⟩ => ⟨z0, H0, z, ρ, E, (p ρ).mono (fun d k z1 H1 st1 fc1 => ?_) h⟩
  cases d with
  | true =>
    rw [if_pos rfl]
    exact fun _ => k z1 H1 st1 fc1
  | false =>
    rw [if_neg Bool.false_ne_true]
    exact ⟨z0, H0, z1, ρ, E.step st1, (q ρ).mono (fun d k z2 H2 st2 fc2 _ => k z2 H2 (st1.trans st2) fc2) k⟩
theorem t_never : EvT M S a fun _ => W.fail := fun X G => ⟨fun _ _ _ _ _ _ ⟨_, _, _, _, _, h⟩ => (show False from h).elim⟩
theorem tw_never : EvTW M S a fun _ => W.fail := fun X G => ⟨fun _ _ _ _ _ _ _ ⟨_, _, _, _, _, h⟩ => (show False from h).elim⟩

/-! ### not, and, or, if as values -/
theorem v_not (ha : EvB M S a f) : EvV M S (.UnaryOp .Not a pos) fun ρ => (f ρ).bind fun d => d.truth.bind fun b => W.pure (.bl !b) := fun X G => by
  refine (pe_notW (ha X G)).impW fun σ H Q fc ⟨z0, H0, z, ρ, E, h⟩ => ⟨z0, H0, z, ρ, E, (f ρ).mono (fun d k x z1 H1 st1 fc1 r1 => ?_) h⟩
  obtain ⟨b, tv, k⟩ := truth_run st1.ok r1 k
  exact ⟨b, tv, fun _ => k (.bl !b) z1 H1 st1 fc1 (.bl _)⟩
theorem v_one {op : BoolOp} (ha : EvV M S a f) : EvV M S (.BoolOp op [a] pos) f := fun X G => pe_one (ha X G)
theorem v_and {rest : List Expr} (ha : EvV M S a f) (hb : EvV M S (.BoolOp .And (b :: rest) pos) g) : EvV M S (.BoolOp .And (a :: b :: rest) pos) fun ρ => (f ρ).bind fun d => d.tr.bind fun k => if k = true then g ρ else W.pure (.bl false) := fun X G => by
  refine (pe_and (ha X G) (hb X G)).impW fun σ H Q fc ⟨z0, H0, z, ρ, E, h⟩ => ⟨z0, H0, z, ρ, E, (f ρ).mono (fun d k x z1 H1 st1 fc1 r1 => ?_) h⟩
  obtain ⟨b, rfl, k⟩ := tr_run k
  cases r1
  refine ⟨b, rfl, ?_⟩
  cases b with
  | false =>
    rw [if_neg Bool.false_ne_true]
    exact fun _ => k (.bl false) z1 H1 st1 fc1 (.bl _)
  | true =>
    rw [if_pos rfl]
    exact ⟨z0, H0, z1, ρ, E.step st1, (g ρ).mono (fun d k v z2 H2 st2 fc2 r2 _ => k v z2 H2 (st1.trans st2) fc2 r2) k⟩
theorem v_or {rest : List Expr} (ha : EvV M S a f) (hb : EvV M S (.BoolOp .Or (b :: rest) pos) g) : EvV M S (.BoolOp .Or (a :: b :: rest) pos) fun ρ => (f ρ).bind fun d => d.tr.bind fun k => if k = true then W.pure (.bl true) else g ρ := fun X G => by
  refine (pe_or (ha X G) (hb X G)).impW fun σ H Q fc ⟨z0, H0, z, ρ, E, h⟩ => ⟨z0, H0, z, ρ, E, (f ρ).mono (fun d k x z1 H1 st1 fc1 r1 => ?_) h⟩
  obtain ⟨b, rfl, k⟩ := tr_run k
  cases r1
  refine ⟨b, rfl, ?_⟩
  cases b with
  | true =>
    rw [if_pos rfl]
    exact fun _ => k (.bl true) z1 H1 st1 fc1 (.bl _)
  | false =>
    rw [if_neg Bool.false_ne_true]
    exact ⟨z0, H0, z1, ρ, E.step st1, (g ρ).mono (fun d k v z2 H2 st2 fc2 r2 _ => k v z2 H2 (st1.trans st2) fc2 r2) k⟩
theorem v_if (hc : EvT M S c p) (ha : EvV M S a f) (hb : EvV M S b g) : EvV M S (.IfExp c a b pos) fun ρ => (p ρ).bind fun k => if k = true then f ρ else g ρ := fun X G => by
  refine (pe_ifExp (hc X G) (ha X G) (hb X G)).impW fun σ H Q fc ⟨z0, H0, z, ρ, E, h⟩ => ⟨z0, H0, z, ρ, E, (p ρ).mono (fun d k z1 H1 st1 fc1 => ?_) h⟩
  cases d with
  | true =>
    rw [if_pos rfl]
    exact ⟨z0, H0, z1, ρ, E.step st1, (f ρ).mono (fun d k v z2 H2 st2 fc2 r2 _ => k v z2 H2 (st1.trans st2) fc2 r2) k⟩
  | false =>
    rw [if_neg Bool.false_ne_true]
    exact ⟨z0, H0, z1, ρ, E.step st1, (g ρ).mono (fun d k v z2 H2 st2 fc2 r2 _ => k v z2 H2 (st1.trans st2) fc2 r2) k⟩
end

/-! ### arithmetic -/
def D.add : D → D → W D
  | .int i, .int j => W.pure (.int (i + j))
  | .lst xs, .lst ys => (W.need (xs.length + ys.length ≤ sizeLine)).bind fun _ => W.pure (.lst (xs ++ ys))
  | .tup xs, .tup ys => (W.need (xs.length + ys.length ≤ sizeLine)).bind fun _ => W.pure (.tup (xs ++ ys))
  | .str x, .str y => (W.need (x.length + y.length ≤ sizeLine)).bind fun _ => W.pure (.str (x ++ y))
  | _, _ => W.fail
def D.sub : D → D → W D
  | .int i, .int j => W.pure (.int (i - j))
  | _, _ => W.fail
def D.mul : D → D → W D
  | .int i, .int j => (W.need (CMul i j)).bind fun _ => W.pure (.int (i * j))
  | .lst xs, .int k => (W.need (-(2 ^ 63) ≤ k ∧ k < 2 ^ 63 ∧ xs.length * k.toNat ≤ sizeLine)).bind fun _ => W.pure (.lst (List.replicate k.toNat xs).flatten)
  | _, _ => W.fail
def D.fdiv : D → D → W D
  | .int i, .int j => (W.need (CDiv i j)).bind fun _ => W.pure (.int (i / j))
  | _, _ => W.fail
def D.mod : D → D → W D
  | .int i, .int j => (W.need (0 < j)).bind fun _ => W.pure (.int (i % j))
  | _, _ => W.fail
section
variable {M : Mo} {S : Fix}
theorem o_add : OpE M S (binaryOp .Add) D.add := fun X G => by
  refine ⟨_, (op_add.or op_cat).or (op_catA.or op_add_str), fun {z H x y d e Q} fc ok rx ry h => ?_⟩
  cases d <;> cases e <;> first
    | exact (show False from h).elim
    | skip
  · rw [rx.int, ry.int]
    exact .inl (.inl ⟨_, _, rfl, rfl, fun _ => h.now ok fc (.int _)⟩)
  · rw [rx.str, ry.str]
    exact .inr (.inr ⟨_, _, rfl, rfl, h.1, fun _ => h.2.now ok fc (.str _)⟩)
  · obtain ⟨a, vs, rfl, qa, ra⟩ := rx.tup ok
    obtain ⟨b, us, rfl, qb, rb⟩ := ry.tup ok
    obtain ⟨hz, h⟩ := h
    refine .inr (.inl ⟨a, b, vs, us, rfl, rfl, .of qa, .of qb, by rw [ra.length, rb.length]; exact hz, fun e _ => ?_, fun _ e _ => ?_, fun _ _ p hp fc2 => kV_new h (Step.refl ok) fc2 hp (.tup Z.put_at ((ra.append rb).le (Z.le_put (ok.free hp))))⟩)
    · subst e
      cases ra
      rcases ry with ry | ⟨_, _, _, _, _, c⟩
      · exact h.now ok fc ry
      · cases c
    · subst e
      cases rb
      rw [List.append_nil] at h
      rcases rx with ry | ⟨_, _, _, _, _, c⟩
      · exact h.now ok fc ry
      · cases c
  · obtain ⟨a, vs, rfl, qa, ra⟩ := rx.lst ok
    obtain ⟨b, us, rfl, qb, rb⟩ := ry.lst ok
    obtain ⟨hz, h⟩ := h
    exact .inl (.inr ⟨a, b, vs, us, rfl, rfl, qa, qb, by rw [ra.length, rb.length]; exact hz, fun p hp fc2 => kV_new h (Step.refl ok) fc2 hp (.lst Z.put_at ((ra.append rb).le (Z.le_put (ok.free hp))))⟩)
theorem o_sub : OpE M S (binaryOp .Sub) D.sub := fun X G => by
  refine ⟨_, op_sub, fun {z H x y d e Q} fc ok rx ry h => ?_⟩
  cases d <;> cases e <;> first
    | exact (show False from h).elim
    | skip
  rw [rx.int, ry.int]
  exact ⟨_, _, rfl, rfl, fun _ => h.now ok fc (.int _)⟩
theorem RpL.rep {K : PySem.W.Frag} {mg : Str → Option Value} {z : Z} {v : List V} {d : List D} (r : RpL K mg z v d) : ∀ n : Nat, RpL K mg z (List.replicate n v).flatten (List.replicate n d).flatten
  | 0 => .nil
  | n + 1 => by rw [List.replicate_succ, List.replicate_succ, List.flatten_cons, List.flatten_cons]; exact r.append (RpL.rep r n)
theorem o_mul : OpE M S (binaryOp .Mult) D.mul := fun X G => by
  refine ⟨_, op_mul.or op_rep, fun {z H x y d e Q} fc ok rx ry h => ?_⟩
  cases d <;> cases e <;> first
    | exact (show False from h).elim
    | skip
  · rw [rx.int, ry.int]
    exact .inl ⟨_, _, rfl, rfl, h.1, fun _ => h.2.now ok fc (.int _)⟩
  · obtain ⟨a, vs, rfl, qa, ra⟩ := rx.lst ok
    rw [ry.int]
    obtain ⟨⟨h1, h2, h3⟩, h⟩ := h
    exact .inr ⟨a, _, vs, rfl, rfl, qa, h1, h2, by rw [ra.length]; exact h3, fun p hp fc2 => kV_new h (Step.refl ok) fc2 hp (.lst Z.put_at ((ra.rep _).le (Z.le_put (ok.free hp))))⟩
theorem o_fdiv : OpE M S (binaryOp .FloorDiv) D.fdiv := fun X G => by
  refine ⟨_, op_fdiv, fun {z H x y d e Q} fc ok rx ry h => ?_⟩
  cases d <;> cases e <;> first
    | exact (show False from h).elim
    | skip
  rw [rx.int, ry.int]
  exact ⟨_, _, rfl, rfl, h.1, fun _ => h.2.now ok fc (.int _)⟩
theorem o_mod : OpE M S (binaryOp .Mod) D.mod := fun X G => by
  refine ⟨_, op_mod, fun {z H x y d e Q} fc ok rx ry h => ?_⟩
  cases d <;> cases e <;> first
    | exact (show False from h).elim
    | skip
  rw [rx.int, ry.int]
  exact ⟨_, _, rfl, rfl, h.1, fun _ => h.2.now ok fc (.int _)⟩

/-! ### comparisons -/
mutual
/-- data that the library's == speaks of -/
def D.py : D → Option PyData
  | .non => some .none
  | .bl b => some (.bool b)
  | .int i => some (.int i)
  | .str x => some (.str x)
  | .tup xs => (pyL xs).map .tuple
  | .lst xs => (pyL xs).map .list
  | .ty _ | .dK _ | .dT _ | .rng _ _ | .fn _ | .bag | .scr => none
def pyL : List D → Option (List PyData)
  | [] => some []
  | x :: xs => match x.py, pyL xs with
    | some p, some ps => some (p :: ps)
    | _, _ => none
end
mutual
theorem Rp.dp {K : PySem.W.Frag} {mg : Str → Option Value} {z : Z} {H : Hp} (s : Same z.f H) : ∀ (d : D) {v : V} {p : PyData}, Rp K mg z v d → d.py = some p → Dp K H v p
  | .non, _, _, r, e => by cases r; cases e; exact .non
  | .bl b, _, _, r, e => by cases r; cases e; exact .bl b
  | .int b, _, _, r, e => by cases r; cases e; exact .int b
  | .str b, _, _, r, e => by cases r; cases e; exact .str b
  | .tup xs, _, p, r, e => by
    cases r with
    | tup h r =>
      have e : (pyL xs).map .tuple = some p := e
      cases q : pyL xs with
      | none => rw [q] at e; cases e
      | some ps => rw [q] at e; cases e; exact .tup (.of (s _ _ h)) (RpL.dp s xs r q)
  | .lst xs, _, p, r, e => by
    cases r with
    | lst h r =>
      have e : (pyL xs).map .list = some p := e
      cases q : pyL xs with
      | none => rw [q] at e; cases e
      | some ps => rw [q] at e; cases e; exact .lst (.of (s _ _ h)) (RpL.dp s xs r q)
  | .ty _, _, _, _, e => by cases e
  | .dK _, _, _, _, e => by cases e
  | .dT _, _, _, _, e => by cases e
  | .rng _ _, _, _, _, e => by cases e
  | .fn _, _, _, _, e => by cases e
  | .bag, _, _, _, e => by cases e
  | .scr, _, _, _, e => by cases e
theorem RpL.dp {K : PySem.W.Frag} {mg : Str → Option Value} {z : Z} {H : Hp} (s : Same z.f H) : ∀ (d : List D) {v : List V} {p : List PyData}, RpL K mg z v d → pyL d = some p → DpAll K H v p
  | [], _, _, r, e => by cases r; cases e; exact .nil
  | x :: xs, _, p, r, e => by
    cases r with
    | cons r1 r2 =>
      have e : (match x.py, pyL xs with
        | some p, some ps => some (p :: ps)
        | _, _ => none) = some p := e
      cases q : x.py with
      | none => rw [q] at e; cases e
      | some p1 =>
        cases q2 : pyL xs with
        | none => rw [q, q2] at e; cases e
        | some ps => rw [q, q2] at e; cases e; exact .cons (Rp.dp s x r1 q) (RpL.dp s xs r2 q2)
end
theorem RB.dp {K : PySem.W.Frag} {mg : Str → Option Value} {z : Z} {H : Hp} {v : V} {d : D} {p : PyData} (ok : ZOk K z H) (r : RB K mg z H v d) (e : d.py = some p) : Dp K H v p := by
  rcases r with r | ⟨a, o, rfl, b, q, c⟩
  · exact r.dp ok.sub d e
  · cases c with
    | @lst vs ds r =>
      have e : (pyL ds).map .list = some p := e
      cases q2 : pyL ds with
      | none => rw [q2] at e; cases e
      | some ps => rw [q2] at e; cases e; exact .lst (.of q) (RpL.dp ok.sub ds r q2)
    | dK _ => cases e
    | dT _ => cases e
def D.py? (d : D) : W PyData := match d.py with
  | some p => (W.need (SeqAt.shaped p = true)).bind fun _ => W.pure p
  | none => W.fail
theorem py_run {d : D} {Q : PyData → Prop} (h : d.py?.run Q) : ∃ p, d.py = some p ∧ SeqAt.shaped p = true ∧ Q p := by
  unfold D.py? at h
  cases q : d.py with
  | none => rw [q] at h; exact (show False from h).elim
  | some p => rw [q] at h; exact ⟨p, rfl, h.1, h.2⟩
def D.eq (d e : D) : W D := d.py?.bind fun p => e.py?.bind fun q => W.pure (.bl (PyData.eqv p q))
def D.ne (d e : D) : W D := d.py?.bind fun p => e.py?.bind fun q => W.pure (.bl (!PyData.eqv p q))
theorem o_eq : OpE M S (compareOp .Eq) D.eq := fun X G => by
  refine ⟨_, op_eqD (by have := G.room.un; omega), fun {z H x y d e Q} fc ok rx ry h => ?_⟩
  obtain ⟨p, e1, s1, h⟩ := py_run h
  obtain ⟨q, e2, s2, h⟩ := py_run h
  exact ⟨p, q, rx.dp ok e1, ry.dp ok e2, s1, s2, fun _ => h.now ok fc (.bl _)⟩
theorem o_ne : OpE M S (compareOp .NotEq) D.ne := fun X G => by
  refine ⟨_, op_neD (by have := G.room.un; omega), fun {z H x y d e Q} fc ok rx ry h => ?_⟩
  obtain ⟨p, e1, s1, h⟩ := py_run h
  obtain ⟨q, e2, s2, h⟩ := py_run h
  exact ⟨p, q, rx.dp ok e1, ry.dp ok e2, s1, s2, fun _ => h.now ok fc (.bl _)⟩
def D.lt : D → D → W D
  | .int i, .int j => W.pure (.bl (decide (i < j)))
  | _, _ => W.fail
def D.le : D → D → W D
  | .int i, .int j => W.pure (.bl (decide (i ≤ j)))
  | _, _ => W.fail
def D.gt : D → D → W D
  | .int i, .int j => W.pure (.bl (decide (j < i)))
  | _, _ => W.fail
def D.ge : D → D → W D
  | .int i, .int j => W.pure (.bl (decide (j ≤ i)))
  | _, _ => W.fail
theorem o_lt : OpE M S (compareOp .Lt) D.lt := fun X G => by
  refine ⟨_, op_lt, fun {z H x y d e Q} fc ok rx ry h => ?_⟩
  cases d <;> cases e <;> first
    | exact (show False from h).elim
    | skip
  rw [rx.int, ry.int]
  exact ⟨_, _, rfl, rfl, fun _ => h.now ok fc (.bl _)⟩
theorem o_le : OpE M S (compareOp .LtE) D.le := fun X G => by
  refine ⟨_, op_le, fun {z H x y d e Q} fc ok rx ry h => ?_⟩
  cases d <;> cases e <;> first
    | exact (show False from h).elim
    | skip
  rw [rx.int, ry.int]
  exact ⟨_, _, rfl, rfl, fun _ => h.now ok fc (.bl _)⟩
theorem o_gt : OpE M S (compareOp .Gt) D.gt := fun X G => by
  refine ⟨_, op_gt, fun {z H x y d e Q} fc ok rx ry h => ?_⟩
  cases d <;> cases e <;> first
    | exact (show False from h).elim
    | skip
  rw [rx.int, ry.int]
  exact ⟨_, _, rfl, rfl, fun _ => h.now ok fc (.bl _)⟩
theorem o_ge : OpE M S (compareOp .GtE) D.ge := fun X G => by
  refine ⟨_, op_ge, fun {z H x y d e Q} fc ok rx ry h => ?_⟩
  cases d <;> cases e <;> first
    | exact (show False from h).elim
    | skip
  rw [rx.int, ry.int]
  exact ⟨_, _, rfl, rfl, fun _ => h.now ok fc (.bl _)⟩
def D.isNon : D → Bool
  | .non => true
  | _ => false
theorem isNon_eq {K : PySem.W.Frag} {mg : Str → Option Value} {z : Z} {H : Hp} {v : V} {d : D} (r : RB K mg z H v d) : decide (v = .non) = d.isNon := by
  rcases r with r | ⟨a, o, rfl, b, q, c⟩
  · cases r <;> rfl
  · cases c <;> rfl
def D.is : D → D → W D
  | d, .non => W.pure (.bl d.isNon)
  | .bl a, .bl b => W.pure (.bl (decide (a = b)))
  | _, _ => W.fail
def D.isnot : D → D → W D
  | d, .non => W.pure (.bl !d.isNon)
  | .bl a, .bl b => W.pure (.bl (!decide (a = b)))
  | _, _ => W.fail
theorem o_is : OpE M S (compareOp .Is) D.is := fun X G => by
  refine ⟨_, op_isN.or op_is_bl, fun {z H x y d e Q} fc ok rx ry h => ?_⟩
  cases e with
  | non =>
    have h : kV X.K X.mg z H Q (.bl d.isNon) := by cases d <;> exact h
    exact .inl ⟨ry.non, fun _ => by rw [isNon_eq rx]; exact h.now ok fc (.bl _)⟩
  | bl b =>
    cases d with
    | bl a => rw [rx.bl, ry.bl]; exact .inr ⟨_, _, rfl, rfl, fun _ => h.now ok fc (.bl _)⟩
    | _ => exact (show False from h).elim
  | _ => cases d <;> exact (show False from h).elim
theorem o_isnot : OpE M S (compareOp .IsNot) D.isnot := fun X G => by
  refine ⟨_, op_notN.or op_isnot_bl, fun {z H x y d e Q} fc ok rx ry h => ?_⟩
  cases e with
  | non =>
    have h : kV X.K X.mg z H Q (.bl !d.isNon) := by cases d <;> exact h
    exact .inl ⟨ry.non, fun _ => by rw [isNon_eq rx]; exact h.now ok fc (.bl _)⟩
  | bl b =>
    cases d with
    | bl a => rw [rx.bl, ry.bl]; exact .inr ⟨_, _, rfl, rfl, fun _ => h.now ok fc (.bl _)⟩
    | _ => exact (show False from h).elim
  | _ => cases d <;> exact (show False from h).elim
end
end PW

set_option Elab.async false
set_option linter.all false
set_option maxRecDepth 100000
set_option maxHeartbeats 1000000
/-! enumerate over a tuple -/
namespace PW
open PySem PySem.Spec PyProof.Rows L2
open AutoSeq1 (wpAny_loadPart')
theorem meets_enumerate_newT (l : Addr) (items : Array Value) :
    Meets (Builtin.«enumerate.__new__» ⟨[.type "enumerate", .ref l], []⟩) (fun _ R s => s.heap.IsTuple l items ∧
      R (.ok (.ret (.ref (s.heap.push { cls := .type "tuple_iterator", data := .fields #[.ref l, .int 0 0] }).objs.size)))
        { s with heap := (s.heap.push { cls := .type "tuple_iterator", data := .fields #[.ref l, .int 0 0] }).push { cls := .type "enumerate", data := .fields #[.none, .bool false, .ref s.heap.objs.size, rawInt 0, .none, .none] } }) :=
  .of_wp fun prog w A R s h => by
    obtain ⟨hp, g, d, tk, os⟩ := s; obtain ⟨hL, h⟩ := h
    have hsub := sub_enumerate
    replace hL : Heap.IsTuple (Shared.heap ⟨hp, g, d, tk, os⟩) l items := hL
    obtain ⟨o, hl, hc, n, hd⟩ := id hL
    wp_walk using wpAny_loadPart' hl
    refine wpAny_stack_any fun st => wpAny_pure ?_
    split
    · rename_i c _ _ _ _ _
      cases (c == Value.type "enumerate")
      · wp_walk using wpAny_loadPart' hl, wpAny_pyIter_tuple hL
        exact ⟨_, rfl, h⟩
      · wp_walk using wpAny_loadPart' hl, wpAny_pyIter_tuple hL
        exact ⟨_, rfl, h⟩
    · wp_walk using wpAny_loadPart' hl, wpAny_pyIter_tuple hL
      exact ⟨_, rfl, h⟩
theorem call_enumerate_tuple {prog : Program} {w : World} {A : Around} {E : Value → Shared → Prop} {s : Shared} {l : Addr} {items : Array Value} {Q : Value → Shared → Prop} (hL : s.heap.IsTuple l items)
    (h : ∀ h', IsEnum h' (s.heap.objs.size + 1) s.heap.objs.size 0 .none → h'.IsTupleIter s.heap.objs.size l 0 → h'.objs.size = s.heap.objs.size + 2 →
      (∀ b o, s.heap.get? b = some o → h'.get? b = some o) → Q (.ref (s.heap.objs.size + 1)) { s with heap := h' }) :
    wpAny (model prog w) A (call (.type "enumerate") [.ref l]) Q E s := by
  refine callType_new F.called_enumerate (by decide) (F.typeCall_enumerate_1 _) (F.newCall_enumerate_1 _) (fun obj => F.args_object_init_2 obj _) F.entry_enumerate_new
    (meets_enumerate_newT l items) ⟨hL, ?_⟩
  have hz : (s.heap.push { cls := .type "tuple_iterator", data := .fields #[.ref l, .int 0 0] }).objs.size = s.heap.objs.size + 1 := Heap.size_push ..
  show _ ∧ _
  rw [hz]
  have he : IsEnum ((s.heap.push { cls := .type "tuple_iterator", data := .fields #[.ref l, .int 0 0] }).push
      { cls := .type "enumerate", data := .fields #[.none, .bool false, .ref s.heap.objs.size, rawInt 0, .none, .none] }) (s.heap.objs.size + 1) s.heap.objs.size 0 .none := by
    have := Heap.get?_push_size (s.heap.push { cls := .type "tuple_iterator", data := .fields #[.ref l, .int 0 0] })
      (o := { cls := .type "enumerate", data := .fields #[.none, .bool false, .ref s.heap.objs.size, rawInt 0, .none, .none] }) rfl
    rw [hz] at this; exact this
  exact ⟨⟨_, he, rfl⟩, h _ he ⟨_, Heap.get?_push_of_some _ (Heap.get?_push_size _ rfl), rfl, rfl⟩ (by rw [Heap.size_push, hz]) fun b o y => Heap.get?_push_of_some _ (Heap.get?_push_of_some _ y)⟩
def IteT (K : PySem.W.Frag) (a : Addr) : It :=
  ⟨fun i H => ∃ (xs : List V) (x : V), SqT K H a xs ∧ xs[i]? = some x, fun i H v H' => ∃ T x, v = .ref T ∧ H T = none ∧ H' = upd H T (.tup [.int (i : Nat), x]) ∧ ∀ xs, SqT K H a xs → xs[i]? = some x, fun i H => ∃ xs : List V, SqT K H a xs ∧ xs.length = i⟩
theorem turn_enumT {P : Program} {w : World} {K : PySem.W.Frag} {elts : List Expr} {kk : Nat} {tpos : Pos} (a e it : Addr) :
    Turn P w K (.Tuple elts kk tpos) (IteT K a) [e, it] e (fun i h => (∃ old, IsEnum h e it ((i : Nat) : Int) old) ∧ h.IsTupleIter it a i ∧ e ≠ it ∧ a ≠ it) where
  mem := by simp
  obj := fun i h st b hb => by
    obtain ⟨⟨old, he⟩, ⟨o, ho, hc, hd⟩, _⟩ := st
    have e' : b = e ∨ b = it := by simpa using hb
    rcases e' with z | z
    · rw [z]; exact ⟨_, he, fun v q => nomatch q⟩
    · rw [z]; exact ⟨o, ho, fun v q => by rw [hd] at q; cases q⟩
  keep := fun i h h' st k => let ⟨⟨old, he⟩, hi, hne⟩ := st; ⟨⟨old, k e (by simp) _ he⟩, hi.at fun o q => k it (by simp) o q, hne⟩
  item := by
    intro X hP hw hK hc i pins s σ H E I hf st hg
    subst hP hw hK
    obtain ⟨⟨old, he⟩, hit, hne, hna⟩ := st
    obtain ⟨xs, x, hq, hx⟩ := hg
    obtain ⟨its, rv, p, hz⟩ := I.tuple hq
    obtain ⟨u, hu, ru⟩ := rv.get hx
    have hel : e < s.heap.objs.size := Heap.lt_size he
    have hil : it < s.heap.objs.size := by obtain ⟨_, q, _⟩ := hit; exact Heap.lt_size q
    have hsz : i < its.toArray.size := by
      have := List.getElem?_eq_some_iff.mp hu
      simpa using this.1
    have D := Draws.tuple (prog := X.prog) (w := X.w) (A := X.A.in1) (by exact I.ok.hd hc) it a hna its.toArray
    have hea : e ∉ [it, a] := by
      intro m
      have e' : e = it ∨ e = a := by simpa using m
      rcases e' with z | z
      · exact hne z
      · subst z
        obtain ⟨o, ho, hc', _⟩ := p
        have q := ho.symm.trans he
        cases q
        exact absurd hc' (by intro q; injection q with q; exact absurd q (by decide))
    refine wpAny_pyNext_enum_itemD D he ⟨hit, p⟩ hsz hne hea fun u' h' tk hP ho hit' hT hsz' hk => ?_
    have eu : u' = u := by
      have h1 : its.toArray[i]? = some u' := hP
      have h2 : its.toArray[i]? = some u := by simpa using hu
      rw [h1] at h2
      exact Option.some.inj h2
    subst eu
    refine ⟨_, rfl, wpAny_letOwnedTupleGo_enum (s := { s with heap := h', toks := tk + 1 }) ho fun h'' he' sb => ?_⟩
    have hT2 : h''.get? s.heap.objs.size = some { cls := .type "tuple", data := .seq #[.int i tk, u'] } := (sb.2 _ (Nat.ne_of_gt hel)).trans hT
    have new : ObjOk X.prog X.w (upd H s.heap.objs.size (.tup [.int (i : Nat), x])) h'' s.heap.objs.size (.tup [.int (i : Nat), x]) :=
      ⟨by show 2 ≤ sizeLine; decide, [.int i tk, u'], .cons ⟨_, rfl⟩ (.cons ru .nil), ⟨_, hT2, rfl, _, rfl⟩⟩
    have I1 : Inv X pins σ (upd H s.heap.objs.size (.tup [.int (i : Nat), x])) { s with heap := h'', toks := tk + 1 } :=
      I.turnedNew (ch := [e, it]) (fun b ob hb q => (sb.2 b (fun z => hb (by simp [z]))).trans (hk b ob (fun z => hb (by simp [z])) (fun z => hb (by simp [z])) q)) hf (Nat.le_refl _) new
    refine ⟨.ref s.heap.objs.size, _, I1, rfl, ⟨_, x, rfl, I.hok.fresh (Nat.le_refl _), rfl, fun ys hy => by rw [I.tuple_inj hy hq]; exact hx⟩, ⟨⟨u', ?_⟩, hit'.1.at fun o q => (sb.2 it (Ne.symm hne)).trans q, hne, hna⟩, fun b hb => ?_⟩
    · have e1 : ((i + 1 : Nat) : Int) = (i : Int) + 1 := by omega
      rw [e1]; exact he'
    · have hb' : b < s.heap.objs.size := by
        have e' : b = e ∨ b = it := by simpa using hb
        rcases e' with z | z
        · rw [z]; exact hel
        · rw [z]; exact hil
      rw [upd_ne (Nat.ne_of_lt hb')]
      exact (hf b hb).1
  done := by
    intro X hP hw hK hc i pins s σ H E I hf st hg
    subst hP hw hK
    obtain ⟨⟨old, he⟩, hit, hne, hna⟩ := st
    obtain ⟨xs, hq, hx⟩ := hg
    obtain ⟨its, rv, p, hz⟩ := I.tuple hq
    obtain ⟨f0, f1, f2, f3, f4, f5⟩ := hf it (by simp)
    have hl := rv.length
    have D := Draws.tuple (prog := X.prog) (w := X.w) (A := X.A.in1) (by exact I.ok.hd hc) it a hna its.toArray
    have e1 : its.toArray.size = i := by rw [List.size_toArray]; omega
    exact wpAny_pyNext_enum_endD D he ⟨by rw [e1]; exact hit, p⟩ fun h' eb => ⟨rfl, I.turned (t' := s.toks) (fun b o hb q => eb b o hb q) f0 f1 f3 f4 f5⟩
  self := fun A i s Q E st h => let ⟨⟨_, he⟩, _⟩ := st; wpAny_pyIter_enum he h
theorem walk_enumT {K : PySem.W.Frag} {a : Addr} {xs : List V} : Walk (IteT K a) xs.length (fun H => SqT K H a xs) (YPair (fun i => some (.int (i : Nat))) (fun i => xs[i]?)) := by
  refine ⟨fun i _ hi q => ⟨xs, xs[i], q, by simp [hi]⟩, fun _ q => ⟨xs, q, rfl⟩, fun i H v H' _ q y => ?_⟩
  obtain ⟨T, x, h1, h2, h3, h4⟩ := y
  exact ⟨T, .int (i : Nat), x, h1, h2, h3, rfl, h4 xs q⟩
/-- enumerate of a list, of a tuple -/
def iEnumA (K : PySem.W.Frag) (ta : TA) : TI := fun σ H R => ta σ H fun vs H1 => ∃ a xs, vs = [.ref a] ∧ ((SqL K H1 a xs ∧ R (Ite K a) H1) ∨ (SqT K H1 a xs ∧ R (IteT K a) H1))
theorem pi_enumA {X : Cx} {e : Expr} {ta : TA} {p pos tpos : Pos} {elts : List Expr} {kk : Nat} (hg : Gl X "enumerate") (hm : X.mg "enumerate" = none) (ha : PA X [e] ta) (hs : starEach [e] X.env = [(false, eval e X.env)] := by rfl) :
    PI X (.Tuple elts kk tpos) (.Call (.Name "enumerate" p) [e] [] pos) (iEnumA X.K ta) := by
  refine ⟨fun pins s σ H R I h => ?_⟩
  refine Call_ (ld_blt I hg hm boot_enumerate (PyProof.Rows.callWith_type1 (thn (ha.run pos pins s σ H _ I h) fun us s1 ⟨vs, H1, I1, r1, q1⟩ => ?_) hs rfl))
  obtain ⟨a, xs, ex, q⟩ := q1
  subst ex
  cases r1 with
  | cons r rr =>
    cases rr
    cases r
    have fin : ∀ {h' : Heap}, (∀ b o, s1.heap.get? b = some o → h'.get? b = some o) → h'.objs.size = s1.heap.objs.size + 2 → ∀ b ∈ [s1.heap.objs.size + 1, s1.heap.objs.size], FpOk X pins H1 b := fun {h'} hk hsz b hb => by
      have e' : b = s1.heap.objs.size + 1 ∨ b = s1.heap.objs.size := by simpa using hb
      rcases e' with z | z
      · rw [z]; exact I1.fpOk (Nat.le_succ _) (I1.hok.fresh (Nat.le_succ _))
      · rw [z]; exact I1.fpOk (Nat.le_refl _) (I1.hok.fresh (Nat.le_refl _))
    rcases q with ⟨hq, q⟩ | ⟨hq, q⟩
    · obtain ⟨its, rv, p', hz⟩ := I1.list hq
      refine call_enumerate_list p'.isList fun h' he hit hsz hk => wpAny_pyIter_enum he ?_
      exact ⟨_, _, _, _, H1, rfl, I1.kept (t' := s1.toks) hk, turn_enum a _ _, ⟨⟨_, he⟩, hit, Nat.ne_of_gt (Nat.lt_succ_self _)⟩, fin hk hsz, q⟩
    · obtain ⟨its, rv, p', hz⟩ := I1.tuple hq
      refine call_enumerate_tuple (items := its.toArray) p' fun h' he hit hsz hk => wpAny_pyIter_enum he ?_
      refine ⟨_, _, _, _, H1, rfl, I1.kept (t' := s1.toks) hk, turn_enumT a _ _, ⟨⟨_, he⟩, hit, Nat.ne_of_gt (Nat.lt_succ_self _), ?_⟩, fin hk hsz, q⟩
      obtain ⟨o, ho, _⟩ := p'
      exact Nat.ne_of_lt (Heap.lt_size ho)
end PW

set_option Elab.async false
set_option linter.all false
set_option maxRecDepth 100000
set_option maxHeartbeats 1000000
namespace PW
open PySem PySem.Spec PyProof.Rows L2

/-! ### what is walked -/
structure Wk (K : PySem.W.Frag) (mg : Str → Option Value) (J : It) (ds : List D) (z : Z) : Prop where
  ex : ∃ (n : Nat) (G : Hp → Prop) (Y : Nat → Hp → V → Hp → Prop), Walk J n G Y ∧ n = ds.length ∧ (∀ z' H', Z.le z z' → ZOk K z' H' → G H') ∧
    ∀ i H x H' z', Z.le z z' → ZOk K z' H → i < n → Y i H x H' → ∃ z'' d, ds[i]? = some d ∧ Step K z' H z'' H' ∧ Rp K mg z'' x d
  size : ds.length ≤ sizeLine
section
variable (K : PySem.W.Frag) (mg : Str → Option Value) (mt : Mt)
def kI (z : Z) (H : Hp) (R : It → Hp → Prop) : List D → Prop := fun ds => ∀ J z' H', Step K z H z' H' → Fct K H' → Wk K mg J ds z' → R J H'
def tI (f : Env → W (List D)) : TI := fun σ H R => ∃ z0 H0 z ρ, EnvR mt K mg z0 H0 z H σ ρ ∧ (f ρ).run (kI K mg z H R)
end
def EvI (M : Mo) (S : Fix) (tg e : Expr) (f : Env → W (List D)) : Prop := ∀ X (G : Good M S X), PI X tg e (tI X.K X.mg G.m f)
theorem _root_.L2.PI.impW {X : Cx} {tg e : Expr} {t t' : TI} (h : PI X tg e t) (hi : ∀ σ H R, Fct X.K H → t' σ H R → t σ H (fun J H' => Fct X.K H' → R J H')) : PI X tg e t' :=
  ⟨fun pins s σ H R I hw => thn (h.run pins s σ H _ I (hi σ H R (fct_of I) hw)) fun v s1 q => thn q fun u s2 ⟨it, fp, tn, J, H', e1, I', T, t0, hf, r⟩ => ⟨it, fp, tn, J, H', e1, I', T, t0, hf, r (fct_of I')⟩⟩

section
variable {K : PySem.W.Frag} {mg : Str → Option Value} {z : Z} {a b : Addr} {xs ys : List V} {ds es : List D}
theorem wk_list (h : z.f a = some (.lst xs)) (r : RpL K mg z xs ds) (hz : xs.length ≤ sizeLine) : Wk K mg (Itl K a) ds z := by
  refine ⟨⟨xs.length, _, _, walk_list (xs := xs), r.length, fun z' H' l ok => .of (ok.sub _ _ (l.f _ _ h)), fun i H x H' z' l ok hi y => ?_⟩, by rw [← r.length]; exact hz⟩
  obtain ⟨rfl, e⟩ := y
  obtain ⟨d, e2, rd⟩ := r.getV e
  exact ⟨z', d, e2, Step.refl ok, rd.le l⟩
theorem wk_tup (h : z.f a = some (.tup xs)) (r : RpL K mg z xs ds) (hz : xs.length ≤ sizeLine) : Wk K mg (Itt K a) ds z := by
  refine ⟨⟨xs.length, _, _, walk_tup (xs := xs), r.length, fun z' H' l ok => .of (ok.sub _ _ (l.f _ _ h)), fun i H x H' z' l ok hi y => ?_⟩, by rw [← r.length]; exact hz⟩
  obtain ⟨rfl, e⟩ := y
  obtain ⟨d, e2, rd⟩ := r.getV e
  exact ⟨z', d, e2, Step.refl ok, rd.le l⟩
/-- lo, lo + 1, .. -/
def rngD (lo hi : Int) : List D := (List.range (hi - lo).toNat).map fun i => .int (lo + (i : Nat))
theorem rngD_len (lo hi : Int) : (rngD lo hi).length = (hi - lo).toNat := by unfold rngD; rw [List.length_map, List.length_range]
theorem wk_rng {lo hi : Int} (hz : (hi - lo).toNat ≤ sizeLine) : Wk K mg (Itr lo (hi - lo).toNat) (rngD lo hi) z := by
  refine ⟨⟨_, _, _, walk_range (lo := lo) (n := (hi - lo).toNat), (rngD_len lo hi).symm, fun z' H' l ok => trivial, fun i H x H' z' l ok hi' y => ?_⟩, by rw [rngD_len]; exact hz⟩
  obtain ⟨rfl, rfl⟩ := y
  refine ⟨z', .int (lo + i), ?_, Step.refl ok, .int _⟩
  unfold rngD
  rw [List.getElem?_map, List.getElem?_range hi']
  rfl
/-- pairs -/
def zipD (ds es : List D) : List D := List.zipWith (fun d e => .tup [d, e]) ds es
theorem zipD_len (ds es : List D) : (zipD ds es).length = min ds.length es.length := List.length_zipWith
theorem pair_step {z' : Z} {H H' : Hp} {x : V} {p q : Option V} {d e : D} (ok : ZOk K z' H) (y : ∃ T x' y', x = .ref T ∧ H T = none ∧ H' = upd H T (.tup [x', y']) ∧ p = some x' ∧ q = some y')
    (hd : ∀ v, p = some v → Rp K mg z' v d) (he : ∀ v, q = some v → Rp K mg z' v e) : ∃ z'', Step K z' H z'' H' ∧ Rp K mg z'' x (.tup [d, e]) := by
  obtain ⟨T, x', y', rfl, hT, rfl, h1, h2⟩ := y
  exact ⟨_, Step.put ok hT trivial, .tup Z.put_at (.cons ((hd _ h1).le (Z.le_put (ok.free hT))) (.cons ((he _ h2).le (Z.le_put (ok.free hT))) .nil))⟩
theorem zipD_get {i : Nat} {d e : D} (h1 : ds[i]? = some d) (h2 : es[i]? = some e) : (zipD ds es)[i]? = some (.tup [d, e]) := by
  unfold zipD
  rw [List.getElem?_zipWith, h1, h2]
theorem zip_core {J : It} {G : Hp → Prop} {n : Nat} (w : Walk J n G (YPair (fun i => xs[i]?) (fun i => ys[i]?))) (hn : n = min xs.length ys.length) (hG : ∀ z' H', Z.le z z' → ZOk K z' H' → G H')
    (ra : RpL K mg z xs ds) (rb : RpL K mg z ys es) (hz : xs.length ≤ sizeLine) : Wk K mg J (zipD ds es) z := by
  have hl : n = (zipD ds es).length := by rw [zipD_len, ← ra.length, ← rb.length]; exact hn
  refine ⟨⟨n, G, _, w, hl, hG, fun i H x H' z' l ok hi y => ?_⟩, by rw [← hl, hn]; omega⟩
  have h1 : i < xs.length := by omega
  have h2 : i < ys.length := by omega
  obtain ⟨d, e1, rd⟩ := ra.getV (List.getElem?_eq_getElem h1)
  obtain ⟨e, e2, re⟩ := rb.getV (List.getElem?_eq_getElem h2)
  obtain ⟨z'', st, r⟩ := pair_step (d := d) (e := e) ok y (fun v q => by
    have q : xs[i]? = some v := q
    rw [List.getElem?_eq_getElem h1] at q
    cases q
    exact rd.le l) (fun v q => by
    have q : ys[i]? = some v := q
    rw [List.getElem?_eq_getElem h2] at q
    cases q
    exact re.le l)
  exact ⟨z'', _, zipD_get e1 e2, st, r⟩
def enumD (ds : List D) : List D := (List.range ds.length).zipWith (fun i d => .tup [.int (i : Nat), d]) ds
theorem enumD_len (ds : List D) : (enumD ds).length = ds.length := by unfold enumD; rw [List.length_zipWith, List.length_range, Nat.min_self]
theorem enumD_get {i : Nat} {d : D} (h : ds[i]? = some d) : (enumD ds)[i]? = some (.tup [.int (i : Nat), d]) := by
  have hi := (List.getElem?_eq_some_iff.mp h).1
  unfold enumD
  rw [List.getElem?_zipWith, List.getElem?_range hi, h]
theorem enum_core {J : It} {G : Hp → Prop} (w : Walk J xs.length G (YPair (fun i => some (.int (i : Nat))) (fun i => xs[i]?))) (hG : ∀ z' H', Z.le z z' → ZOk K z' H' → G H')
    (ra : RpL K mg z xs ds) (hz : xs.length ≤ sizeLine) : Wk K mg J (enumD ds) z := by
  have hl : xs.length = (enumD ds).length := by rw [enumD_len, ra.length]
  refine ⟨⟨xs.length, G, _, w, hl, hG, fun i H x H' z' l ok hi y => ?_⟩, by rw [← hl]; exact hz⟩
  obtain ⟨d, e1, rd⟩ := ra.getV (List.getElem?_eq_getElem hi)
  obtain ⟨z'', st, r⟩ := pair_step (mg := mg) (d := .int (i : Nat)) (e := d) ok y (fun v q => by cases q; exact .int _) (fun v q => by
    have q : xs[i]? = some v := q
    rw [List.getElem?_eq_getElem hi] at q
    cases q
    exact rd.le l)
  exact ⟨z'', _, enumD_get e1, st, r⟩
end

theorem walk_zipT {K : PySem.W.Frag} {a b : Addr} {xs ys : List V} {n : Nat} (hn : n = min xs.length ys.length) : Walk (RZ.ItzT K a b) n (fun H => SqT K H a xs ∧ SqT K H b ys) (YPair (fun i => xs[i]?) (fun i => ys[i]?)) := by
  subst hn
  refine ⟨fun i _ hi q => ?_, fun _ q => ⟨xs, ys, q.1, q.2, by omega⟩, fun i H v H' _ q y => ?_⟩
  · have h1 : i < xs.length := by omega
    have h2 : i < ys.length := by omega
    exact ⟨xs, ys, xs[i], ys[i], q.1, q.2, by simp [h1], by simp [h2]⟩
  · obtain ⟨T, x, z, h1, h2, h3, h4, h5⟩ := y
    exact ⟨T, x, z, h1, h2, h3, h4 xs q.1, h5 ys q.2⟩
/-- a list, a tuple, a range, walked -/
def D.iter : D → W (List D)
  | .tup xs => W.pure xs
  | .lst xs => W.pure xs
  | .rng lo hi => (W.need (-(2 ^ 62) ≤ lo ∧ lo < 2 ^ 62 ∧ -(2 ^ 62) ≤ hi ∧ hi < 2 ^ 62 ∧ (hi - lo).toNat ≤ sizeLine)).bind fun _ => W.pure (rngD lo hi)
  | _ => W.fail
def iAny (K : PySem.W.Frag) (tl : TE) : TI := fun σ H R => tl σ H fun x H1 => ∃ a, x = .ref a ∧ (((∃ xs, SqL K H1 a xs) ∧ R (Itl K a) H1) ∨ ((∃ xs, SqT K H1 a xs) ∧ R (Itt K a) H1) ∨
  ∃ lo hi, H1 a = some (.rng lo hi) ∧ (-(2 ^ 62) ≤ lo ∧ lo < 2 ^ 62 ∧ -(2 ^ 62) ≤ hi ∧ hi < 2 ^ 62) ∧ R (Itr lo (hi - lo).toNat) H1)
theorem pi_any {X : Cx} {tg l : Expr} {tl : TE} (hl : PE X l tl) : PI X tg l (iAny X.K tl) := by
  refine ⟨fun pins s σ H R I h => ?_⟩
  refine thn (hl.run pins s σ H _ I h) fun v s1 ⟨x, H1, I1, r1, q1⟩ => ?_
  obtain ⟨a, e, q⟩ := q1
  subst e
  cases r1
  rcases q with ⟨⟨xs, hq⟩, q⟩ | ⟨⟨xs, hq⟩, q⟩ | ⟨lo, hi, hq, ⟨h1, h2, h3, h4⟩, q⟩
  · obtain ⟨its, rv, p, hz⟩ := I1.list hq
    refine wpAny_pyIter_list p.isList ?_
    refine ⟨s1.heap.objs.size, [s1.heap.objs.size], _, _, H1, rfl, I1.kept (t' := s1.toks) fun b o e => Heap.get?_push_of_some _ e, turn_list a _, ⟨_, Heap.get?_push_size _ rfl, rfl, rfl⟩, fun b hb => ?_, q⟩
    have e : b = s1.heap.objs.size := by simpa using hb
    subst e
    exact I1.fpOk (Nat.le_refl _) (I1.hok.fresh (Nat.le_refl _))
  · obtain ⟨its, rv, p, hz⟩ := I1.tuple hq
    refine wpAny_pyIter_tuple (show s1.heap.IsTuple a its.toArray from p) ?_
    refine ⟨s1.heap.objs.size, [s1.heap.objs.size], _, _, H1, rfl, I1.kept (t' := s1.toks) fun b o e => Heap.get?_push_of_some _ e, turn_tuple a _, ⟨_, Heap.get?_push_size _ rfl, rfl, rfl⟩, fun b hb => ?_, q⟩
    have e : b = s1.heap.objs.size := by simpa using hb
    subst e
    exact I1.fpOk (Nat.le_refl _) (I1.hok.fresh (Nat.le_refl _))
  · obtain ⟨t, u, v, he⟩ : ∃ t u v, s1.heap.get? a = some { cls := .type "range", data := .fields #[.int lo t, .int hi u, .int 1 v] } := I1.hok a _ hq
    refine wpAny_pyIter_range he (small_one h1 h2 h3 h4) ?_
    refine ⟨s1.heap.objs.size, [s1.heap.objs.size], _, _, H1, rfl, I1.kept (t' := s1.toks) fun b o e => Heap.get?_push_of_some _ e, turn_range _ lo (hi - lo).toNat, ?_, fun b hb => ?_, q⟩
    · have e1 : lo + ((0 : Nat) : Int) * 1 = lo := by simp
      have e2 : (((hi - lo).toNat : Nat) : Int) - ((0 : Nat) : Int) = Builtin.Range.rangeSize lo hi 1 := by rw [rangeSize_one]; split <;> omega
      show IsRangeIter _ _ (lo + ((0 : Nat) : Int) * 1) ((((hi - lo).toNat : Nat) : Int) - ((0 : Nat) : Int)) 1
      rw [e1, e2]
      exact Heap.get?_push_size _ rfl
    · have e : b = s1.heap.objs.size := by simpa using hb
      subst e
      exact I1.fpOk (Nat.le_refl _) (I1.hok.fresh (Nat.le_refl _))

section
variable {M : Mo} {S : Fix} {tg e e2 : Expr} {f : Env → W D} {fs : Env → W (List D)} {p pos tpos : Pos} {elts : List Expr} {kk : Nat}
theorem i_val (he : EvV M S e f) : EvI M S tg e fun ρ => (f ρ).bind D.iter := fun X G => by
  refine (pi_any (he X G)).impW fun σ H R fc ⟨z0, H0, z, ρ, E, h⟩ => ⟨z0, H0, z, ρ, E, (f ρ).mono (fun d k v z1 H1 st1 fc1 r1 => ?_) h⟩
  cases d with
  | tup ds =>
    cases r1 with
    | tup hf r => exact ⟨_, rfl, .inr (.inl ⟨⟨_, .of (st1.ok.sub _ _ hf)⟩, fun _ => k _ z1 H1 st1 fc1 (wk_tup hf r (fc1.t _ _ (.of (st1.ok.sub _ _ hf))))⟩)⟩
  | lst ds =>
    cases r1 with
    | lst hf r => exact ⟨_, rfl, .inl ⟨⟨_, .of (st1.ok.sub _ _ hf)⟩, fun _ => k _ z1 H1 st1 fc1 (wk_list hf r (fc1.l _ _ (.of (st1.ok.sub _ _ hf))))⟩⟩
  | rng lo hi =>
    obtain ⟨⟨h1, h2, h3, h4, h5⟩, k⟩ := k
    cases r1 with
    | rng hf => exact ⟨_, rfl, .inr (.inr ⟨lo, hi, st1.ok.sub _ _ hf, ⟨h1, h2, h3, h4⟩, fun _ => k _ z1 H1 st1 fc1 (wk_rng h5)⟩)⟩
  | _ => exact (show False from k).elim
def D.rng1 : List D → W (List D)
  | [.int j] => (W.need (-(2 ^ 62) ≤ j ∧ j < 2 ^ 62 ∧ j.toNat ≤ sizeLine)).bind fun _ => W.pure (rngD 0 j)
  | _ => W.fail
def D.rng2 : List D → W (List D)
  | [.int i, .int j] => (W.need (-(2 ^ 62) ≤ i ∧ i < 2 ^ 62 ∧ -(2 ^ 62) ≤ j ∧ j < 2 ^ 62 ∧ (j - i).toNat ≤ sizeLine)).bind fun _ => W.pure (rngD i j)
  | _ => W.fail
theorem rng1_run {ds : List D} {Q : List D → Prop} (h : (D.rng1 ds).run Q) : ∃ j, ds = [.int j] ∧ (-(2 ^ 62) ≤ j ∧ j < 2 ^ 62 ∧ j.toNat ≤ sizeLine) ∧ Q (rngD 0 j) := by
  unfold D.rng1 at h
  split at h
  · exact ⟨_, rfl, h.1, h.2⟩
  · exact (show False from h).elim
theorem rng2_run {ds : List D} {Q : List D → Prop} (h : (D.rng2 ds).run Q) : ∃ i j, ds = [.int i, .int j] ∧ (-(2 ^ 62) ≤ i ∧ i < 2 ^ 62 ∧ -(2 ^ 62) ≤ j ∧ j < 2 ^ 62 ∧ (j - i).toNat ≤ sizeLine) ∧ Q (rngD i j) := by
  unfold D.rng2 at h
  split at h
  · exact ⟨_, _, rfl, h.1, h.2⟩
  · exact (show False from h).elim
theorem RBs.one {K : PySem.W.Frag} {mg : Str → Option Value} {z : Z} {H : Hp} {vs : List V} {d : D} (r : RBs K mg z H vs [d]) : ∃ v, vs = [v] ∧ RB K mg z H v d := by
  cases r with
  | cons h r => cases r; exact ⟨_, rfl, h⟩
theorem RBs.two {K : PySem.W.Frag} {mg : Str → Option Value} {z : Z} {H : Hp} {vs : List V} {d e : D} (r : RBs K mg z H vs [d, e]) : ∃ v u, vs = [v, u] ∧ RB K mg z H v d ∧ RB K mg z H u e := by
  cases r with
  | cons h r =>
    obtain ⟨u, rfl, h2⟩ := r.one
    exact ⟨_, _, rfl, h, h2⟩
theorem RpL.one {K : PySem.W.Frag} {mg : Str → Option Value} {z : Z} {vs : List V} {d : D} (r : RpL K mg z vs [d]) : ∃ v, vs = [v] ∧ Rp K mg z v d := by
  cases r with
  | cons h r => cases r; exact ⟨_, rfl, h⟩
theorem RpL.two {K : PySem.W.Frag} {mg : Str → Option Value} {z : Z} {vs : List V} {d e : D} (r : RpL K mg z vs [d, e]) : ∃ v u, vs = [v, u] ∧ Rp K mg z v d ∧ Rp K mg z u e := by
  cases r with
  | cons h r =>
    obtain ⟨u, rfl, h2⟩ := r.one
    exact ⟨_, _, rfl, h, h2⟩
theorem i_range1 (ha : EvAB M S [e] fs) (hf : decide (("range" : Str) ∈ M.free) = true := by kernel_rfl) (hg : S.sc.names.lookup ("range" : Str) = some .globalImplicit := by kernel_rfl) (hs : ∀ env, starEach [e] env = [(false, eval e env)] := by intro _; kernel_rfl) :
    EvI M S tg (.Call (.Name "range" p) [e] [] pos) fun ρ => (fs ρ).bind D.rng1 := fun X G => by
  refine (pi_range1 (gl_of G hg) (G.free _ (of_decide_eq_true hf)) (ha X G) (hs _)).impW fun σ H R fc ⟨z0, H0, z, ρ, E, h⟩ => ⟨z0, H0, z, ρ, E, (fs ρ).mono (fun ds k vs z1 H1 st1 fc1 r1 => ?_) h⟩
  obtain ⟨j, rfl, ⟨h1, h2, h3⟩, k⟩ := rng1_run k
  obtain ⟨v, rfl, r⟩ := r1.one
  have h3' : (j - 0).toNat ≤ sizeLine := by rw [Int.sub_zero]; exact h3
  have w := wk_rng (K := X.K) (mg := X.mg) (z := z1) (lo := 0) (hi := j) h3'
  rw [Int.sub_zero] at w
  exact ⟨j, by rw [r.int], h1, h2, fun _ => k _ z1 H1 st1 fc1 w⟩
theorem i_range2 (ha : EvAB M S [e, e2] fs) (hf : decide (("range" : Str) ∈ M.free) = true := by kernel_rfl) (hg : S.sc.names.lookup ("range" : Str) = some .globalImplicit := by kernel_rfl)
    (hs : ∀ env, starEach [e, e2] env = [(false, eval e env), (false, eval e2 env)] := by intro _; kernel_rfl) (hs2 : ∀ env, starEach [e2] env = [(false, eval e2 env)] := by intro _; kernel_rfl) :
    EvI M S tg (.Call (.Name "range" p) [e, e2] [] pos) fun ρ => (fs ρ).bind D.rng2 := fun X G => by
  refine (pi_range2 (gl_of G hg) (G.free _ (of_decide_eq_true hf)) (ha X G) (hs _) (hs2 _)).impW fun σ H R fc ⟨z0, H0, z, ρ, E, h⟩ => ⟨z0, H0, z, ρ, E, (fs ρ).mono (fun ds k vs z1 H1 st1 fc1 r1 => ?_) h⟩
  obtain ⟨i, j, rfl, ⟨h1, h2, h3, h4, h5⟩, k⟩ := rng2_run k
  obtain ⟨v, u, rfl, r, r'⟩ := r1.two
  exact ⟨i, j, by rw [r.int, r'.int], ⟨h1, h2, h3, h4⟩, fun _ => k _ z1 H1 st1 fc1 (wk_rng h5)⟩
/-- both lists, or both tuples -/
def D.zip : List D → W (List D)
  | [.tup xs, .tup ys] => W.pure (zipD xs ys)
  | [.lst xs, .lst ys] => W.pure (zipD xs ys)
  | _ => W.fail
theorem i_zip (ha : EvAV M S [e, e2] fs) (hf : decide (("zip" : Str) ∈ M.free) = true := by kernel_rfl) (hg : S.sc.names.lookup ("zip" : Str) = some .globalImplicit := by kernel_rfl)
    (hs : ∀ env, starEach [e, e2] env = (false, eval e env) :: starEach [e2] env := by intro _; kernel_rfl) (hpl : ∀ env, (backTo pos (starEach [e2] env)).any (·.1) = false := by intro _; kernel_rfl) :
    EvI M S (.Tuple elts kk tpos) (.Call (.Name "zip" p) [e, e2] [] pos) fun ρ => (fs ρ).bind D.zip := fun X G => by
  refine (RZ.pi_zipA (gl_of G hg) (G.free _ (of_decide_eq_true hf)) (ha X G) (hs _) (hpl _)).impW fun σ H R fc ⟨z0, H0, z, ρ, E, h⟩ => ⟨z0, H0, z, ρ, E, (fs ρ).mono (fun ds k vs z1 H1 st1 fc1 r1 => ?_) h⟩
  unfold D.zip at k
  split at k
  · obtain ⟨v, u, rfl, r, r'⟩ := r1.two
    cases r with
    | tup hf r =>
      cases r' with
      | tup hf' r' =>
        refine ⟨_, _, _, _, rfl, .inr ⟨.of (st1.ok.sub _ _ hf), .of (st1.ok.sub _ _ hf'), fun _ => k _ z1 H1 st1 fc1 (zip_core (walk_zipT rfl) rfl (fun z' H' l ok => ⟨.of (ok.sub _ _ (l.f _ _ hf)), .of (ok.sub _ _ (l.f _ _ hf'))⟩) r r' (fc1.t _ _ (.of (st1.ok.sub _ _ hf))))⟩⟩
  · obtain ⟨v, u, rfl, r, r'⟩ := r1.two
    cases r with
    | lst hf r =>
      cases r' with
      | lst hf' r' =>
        refine ⟨_, _, _, _, rfl, .inl ⟨.of (st1.ok.sub _ _ hf), .of (st1.ok.sub _ _ hf'), fun _ => k _ z1 H1 st1 fc1 (zip_core (walk_zip rfl) rfl (fun z' H' l ok => ⟨.of (ok.sub _ _ (l.f _ _ hf)), .of (ok.sub _ _ (l.f _ _ hf'))⟩) r r' (fc1.l _ _ (.of (st1.ok.sub _ _ hf))))⟩⟩
  · exact (show False from k).elim
def D.enum : List D → W (List D)
  | [.tup xs] => W.pure (enumD xs)
  | [.lst xs] => W.pure (enumD xs)
  | _ => W.fail
theorem i_enum (ha : EvAV M S [e] fs) (hf : decide (("enumerate" : Str) ∈ M.free) = true := by kernel_rfl) (hg : S.sc.names.lookup ("enumerate" : Str) = some .globalImplicit := by kernel_rfl) (hs : ∀ env, starEach [e] env = [(false, eval e env)] := by intro _; kernel_rfl) :
    EvI M S (.Tuple elts kk tpos) (.Call (.Name "enumerate" p) [e] [] pos) fun ρ => (fs ρ).bind D.enum := fun X G => by
  refine (pi_enumA (gl_of G hg) (G.free _ (of_decide_eq_true hf)) (ha X G) (hs _)).impW fun σ H R fc ⟨z0, H0, z, ρ, E, h⟩ => ⟨z0, H0, z, ρ, E, (fs ρ).mono (fun ds k vs z1 H1 st1 fc1 r1 => ?_) h⟩
  unfold D.enum at k
  split at k
  · obtain ⟨v, rfl, r⟩ := r1.one
    cases r with
    | tup hf r => exact ⟨_, _, rfl, .inr ⟨.of (st1.ok.sub _ _ hf), fun _ => k _ z1 H1 st1 fc1 (enum_core walk_enumT (fun z' H' l ok => .of (ok.sub _ _ (l.f _ _ hf))) r (fc1.t _ _ (.of (st1.ok.sub _ _ hf))))⟩⟩
  · obtain ⟨v, rfl, r⟩ := r1.one
    cases r with
    | lst hf r => exact ⟨_, _, rfl, .inl ⟨.of (st1.ok.sub _ _ hf), fun _ => k _ z1 H1 st1 fc1 (enum_core walk_enum (fun z' H' l ok => .of (ok.sub _ _ (l.f _ _ hf))) r (fc1.l _ _ (.of (st1.ok.sub _ _ hf))))⟩⟩
  · exact (show False from k).elim
end

/-! ### targets -/
inductive Tgt where
  | nm (i : Nat) | tp (is : List Nat) | tt (is : List (Nat ⊕ List Nat))
def ttSlots : List (Nat ⊕ List Nat) → List Nat
  | [] => []
  | .inl i :: r => i :: ttSlots r
  | .inr js :: r => js ++ ttSlots r
def Tgt.slots : Tgt → List Nat
  | .nm i => [i]
  | .tp is => is
  | .tt is => ttSlots is
def setAll : List Nat → List D → Env → W Env
  | [], [], ρ => W.pure ρ
  | i :: is, d :: ds, ρ => setAll is ds (ρ.set i (some d))
  | _, _, _ => W.fail
/-- names and tuples of names -/
def setAllT : List (Nat ⊕ List Nat) → List D → Env → W Env
  | [], [], ρ => W.pure ρ
  | .inl i :: is, d :: ds, ρ => setAllT is ds (ρ.set i (some d))
  | .inr js :: is, .tup es :: ds, ρ => (setAll js es ρ).bind fun ρ' => setAllT is ds ρ'
  | _, _, _ => W.fail
def Tgt.set : Tgt → D → Env → W Env
  | .nm i, d, ρ => W.pure (ρ.set i (some d))
  | .tp is, .tup ds, ρ => setAll is ds ρ
  | .tt is, .tup ds, ρ => setAllT is ds ρ
  | _, _, _ => W.fail
section
variable (K : PySem.W.Frag) (mg : Str → Option Value) (mt : Mt)
def kG (z0 : Z) (H0 : Hp) (z : Z) (H : Hp) (σ : Sg) (ρ : Env) (sl : List Nat) (Q : Sg → Hp → Prop) : Env → Prop := fun ρ' => ∀ σ', EnvR mt K mg z0 H0 z H σ' ρ' → (∀ vs, (∀ j ∈ sl, j ∈ vs) → wipe σ' vs = wipe σ vs) → (∀ i ∈ mt, σ'[i]? = σ[i]? ∧ ρ'[i]? = ρ[i]?) → Q σ' H
def tG (t : Tgt) : TG := fun v σ H Q => ∃ z0 H0 z ρ d, EnvR mt K mg z0 H0 z H σ ρ ∧ Rp K mg z v d ∧ (t.set d ρ).run (kG K mg mt z0 H0 z H σ ρ t.slots Q)
def tGs (is : List Nat) : TGs := fun vs σ H Q => ∃ z0 H0 z ρ ds, EnvR mt K mg z0 H0 z H σ ρ ∧ RpL K mg z vs ds ∧ (setAll is ds ρ).run (kG K mg mt z0 H0 z H σ ρ is Q)
def tGsT (is : List (Nat ⊕ List Nat)) : TGs := fun vs σ H Q => ∃ z0 H0 z ρ ds, EnvR mt K mg z0 H0 z H σ ρ ∧ RpL K mg z vs ds ∧ (setAllT is ds ρ).run (kG K mg mt z0 H0 z H σ ρ (ttSlots is) Q)
end
def EvG (M : Mo) (S : Fix) (tg : Expr) (t : Tgt) : Prop := ∀ X (G : Good M S X), PG X tg (tG X.K X.mg G.m t)
def EvGs (M : Mo) (S : Fix) (tgs : List Expr) (is : List Nat) : Prop := ∀ X (G : Good M S X), PGs X tgs (tGs X.K X.mg G.m is)
def EvGsT (M : Mo) (S : Fix) (tgs : List Expr) (is : List (Nat ⊕ List Nat)) : Prop := ∀ X (G : Good M S X), PGs X tgs (tGsT X.K X.mg G.m is)
theorem _root_.L2.PG.imp' {X : Cx} {tg : Expr} {t t' : TG} (h : PG X tg t) (hi : ∀ v σ H Q, Fct X.K H → t' v σ H Q → t v σ H Q) : PG X tg t' := ⟨fun pins s σ H v u Q I r hw => h.run pins s σ H v u Q I r (hi v σ H Q (fct_of I) hw)⟩
theorem _root_.L2.PGs.imp' {X : Cx} {tg : List Expr} {t t' : TGs} (h : PGs X tg t) (hi : ∀ v σ H Q, t' v σ H Q → t v σ H Q) : PGs X tg t' := ⟨fun pins s σ H v u Q I r hw => h.run pins s σ H v u Q I r (hi v σ H Q hw)⟩
theorem wipe_get {σ : Sg} : ∀ (vs : List Nat) (j : Nat), (wipe σ vs)[j]? = if j ∈ vs then (if j < σ.length then some none else none) else σ[j]?
  | [], j => by simp [wipe]
  | v :: vs, j => by
    unfold wipe
    by_cases h : v = j
    · subst h
      rw [if_pos List.mem_cons_self]
      by_cases hl : v < σ.length
      · rw [if_pos hl, List.getElem?_set_self (by rw [wipe_length]; exact hl)]
      · rw [if_neg hl]
        exact List.getElem?_eq_none (by rw [List.length_set, wipe_length]; omega)
    · rw [List.getElem?_set_ne h, wipe_get vs j]
      by_cases hj : j ∈ vs
      · rw [if_pos hj, if_pos (List.mem_cons_of_mem _ hj)]
      · rw [if_neg hj, if_neg (fun m => (List.mem_cons.mp m).elim (fun e => h e.symm) hj)]
theorem wipe_set {σ : Sg} {i : Nat} {o : Option V} {vs : List Nat} (h : i ∈ vs) : wipe (σ.set i o) vs = wipe σ vs := by
  apply List.ext_getElem?
  intro j
  rw [wipe_get, wipe_get, List.length_set]
  by_cases hj : j ∈ vs
  · rw [if_pos hj, if_pos hj]
  · rw [if_neg hj, if_neg hj, List.getElem?_set_ne (fun e => hj (by rw [← e]; exact h))]
section
variable {M : Mo} {S : Fix} {pos : Pos}
theorem g_nm (i : Nat) {x : Str} (hN : S.N[i]? = some x := by kernel_rfl) (hl : locC S.sc x = true := by kernel_rfl) (hf : fnC S x = true := by kernel_rfl)
    (hi : S.mt.contains i = false := by kernel_rfl) : EvG M S (.Name x pos) (.nm i) := fun X G => by
  refine (pg_name (i := i) (by rw [G.N]; exact G.nd) (by rw [G.N]; exact hN) (by rw [G.sc]; exact loc_of hl) (by rw [G.fn, G.sc]; exact fnC_of hf)).imp' fun v σ H Q fc ⟨z0, H0, z, ρ, d, E, r, h⟩ => ?_
  have hm : i ∉ S.mt := fun m => by rw [List.contains_iff_mem.mpr m] at hi; cases hi
  exact h _ (E.set hm r) (fun vs hv => wipe_set (hv i (List.mem_singleton.mpr rfl))) fun j hj => by
    have e : i ≠ j := fun q => hm (q ▸ hj)
    rw [List.getElem?_set_ne e, List.getElem?_set_ne e]
    exact ⟨rfl, rfl⟩
theorem gs_nil : EvGs M S [] [] := fun X G => pgs_nil.imp' fun vs σ H Q ⟨z0, H0, z, ρ, ds, E, r, h⟩ => by
  cases ds with
  | nil => exact ⟨by cases r; rfl, h σ E (fun _ _ => rfl) fun _ _ => ⟨rfl, rfl⟩⟩
  | cons _ _ => exact (show False from h).elim
theorem gs_cons {e : Expr} {es : List Expr} {i : Nat} {is : List Nat} (he : EvG M S e (.nm i)) (hs : EvGs M S es is) (ha : ∀ env, (assignEach (e :: es) env).map (·.2) = assign e env :: (assignEach es env).map (·.2) := by intro _; kernel_rfl) : EvGs M S (e :: es) (i :: is) := fun X G => by
  refine (pgs_cons (he X G) (hs X G) (ha _)).imp' fun vs σ H Q ⟨z0, H0, z, ρ, ds, E, r, h⟩ => ?_
  cases ds with
  | nil => exact (show False from h).elim
  | cons d ds =>
    cases r with
    | cons r1 r2 =>
      refine ⟨_, _, rfl, z0, H0, z, ρ, d, E, r1, fun σ1 E1 w1 m1 => ?_⟩
      refine ⟨z0, H0, z, _, ds, E1, r2, (setAll is ds _).mono (fun ρ' k σ' E' w' m' => k σ' E' (fun vs hv => ?_) fun j hj => ⟨(m' j hj).1.trans (m1 j hj).1, (m' j hj).2.trans (m1 j hj).2⟩) h⟩
      rw [w' vs fun j hj => hv j (List.mem_cons_of_mem _ hj)]
      exact w1 vs fun j hj => hv j (by rw [List.mem_singleton.mp hj]; exact List.mem_cons_self)
theorem setAll_len : ∀ {is : List Nat} {ds : List D} {ρ : Env} {Q : Env → Prop}, (setAll is ds ρ).run Q → ds.length = is.length
  | [], [], _, _, _ => rfl
  | _ :: is, _ :: ds, _, _, h => by rw [List.length_cons, List.length_cons, setAll_len (is := is) (ds := ds) h]
  | [], _ :: _, _, _, h => (show False from h).elim
  | _ :: _, [], _, _, h => (show False from h).elim
theorem g_tp {es : List Expr} {k : Nat} {is : List Nat} (h : EvGs M S es is) (hn : ∀ env, (assignEach es env).length = is.length := by intro _; kernel_rfl) (hst : ∀ env, (assignEach es env).findIdx? (·.1) = none := by intro _; kernel_rfl) :
    EvG M S (.Tuple es k pos) (.tp is) := fun X G => by
  refine (pg_tup G.calm (h X G) (hn _) (hst _)).imp' fun v σ H Q fc ⟨z0, H0, z, ρ, d, E, r, h⟩ => ?_
  cases d with
  | tup ds =>
    cases r with
    | tup hf r => exact ⟨_, _, rfl, .of (E.ok.sub _ _ hf), by rw [r.length]; exact setAll_len h, z0, H0, z, ρ, ds, E, r, h⟩
  | _ => exact (show False from h).elim
theorem gt_nil : EvGsT M S [] [] := fun X G => pgs_nil.imp' fun vs σ H Q ⟨z0, H0, z, ρ, ds, E, r, h⟩ => by
  cases ds with
  | nil => exact ⟨by cases r; rfl, h σ E (fun _ _ => rfl) fun _ _ => ⟨rfl, rfl⟩⟩
  | cons _ _ => exact (show False from h).elim
theorem gt_nm {e : Expr} {es : List Expr} {i : Nat} {is : List (Nat ⊕ List Nat)} (he : EvG M S e (.nm i)) (hs : EvGsT M S es is) (ha : ∀ env, (assignEach (e :: es) env).map (·.2) = assign e env :: (assignEach es env).map (·.2) := by intro _; kernel_rfl) : EvGsT M S (e :: es) (.inl i :: is) := fun X G => by
  refine (pgs_cons (he X G) (hs X G) (ha _)).imp' fun vs σ H Q ⟨z0, H0, z, ρ, ds, E, r, h⟩ => ?_
  cases ds with
  | nil => exact (show False from h).elim
  | cons d ds =>
    cases r with
    | cons r1 r2 =>
      refine ⟨_, _, rfl, z0, H0, z, ρ, d, E, r1, fun σ1 E1 w1 m1 => ?_⟩
      refine ⟨z0, H0, z, _, ds, E1, r2, (setAllT is ds _).mono (fun ρ' k σ' E' w' m' => k σ' E' (fun vs hv => ?_) fun j hj => ⟨(m' j hj).1.trans (m1 j hj).1, (m' j hj).2.trans (m1 j hj).2⟩) h⟩
      rw [w' vs fun j hj => hv j (List.mem_cons_of_mem _ hj)]
      exact w1 vs fun j hj => hv j (by rw [List.mem_singleton.mp hj]; exact List.mem_cons_self)
theorem gt_tp {e : Expr} {es : List Expr} {js : List Nat} {is : List (Nat ⊕ List Nat)} (he : EvG M S e (.tp js)) (hs : EvGsT M S es is) (ha : ∀ env, (assignEach (e :: es) env).map (·.2) = assign e env :: (assignEach es env).map (·.2) := by intro _; kernel_rfl) : EvGsT M S (e :: es) (.inr js :: is) := fun X G => by
  refine (pgs_cons (he X G) (hs X G) (ha _)).imp' fun vs σ H Q ⟨z0, H0, z, ρ, ds, E, r, h⟩ => ?_
  cases ds with
  | nil => exact (show False from h).elim
  | cons d ds =>
    cases r with
    | cons r1 r2 =>
      cases d with
      | tup es' =>
        refine ⟨_, _, rfl, z0, H0, z, ρ, .tup es', E, r1, W.mono _ (fun ρ1 k σ1 E1 w1 m1 => ?_) (show (setAll js es' ρ).run _ from h)⟩
        refine ⟨z0, H0, z, ρ1, ds, E1, r2, (setAllT is ds _).mono (fun ρ' k σ' E' w' m' => k σ' E' (fun vs hv => ?_) fun j hj => ⟨(m' j hj).1.trans (m1 j hj).1, (m' j hj).2.trans (m1 j hj).2⟩) k⟩
        rw [w' vs fun j hj => hv j (List.mem_append_right _ hj)]
        exact w1 vs fun j hj => hv j (List.mem_append_left _ hj)
      | _ => exact (show False from h).elim
theorem setAll_some : ∀ {is : List Nat} {ds : List D} {ρ : Env} {Q : Env → Prop}, (setAll is ds ρ).run Q → ∃ ρ', Q ρ'
  | [], [], ρ, _, h => ⟨ρ, h⟩
  | _ :: is, _ :: ds, _, _, h => setAll_some (is := is) (ds := ds) h
  | [], _ :: _, _, _, h => (show False from h).elim
  | _ :: _, [], _, _, h => (show False from h).elim
theorem setAllT_len : ∀ {is : List (Nat ⊕ List Nat)} {ds : List D} {ρ : Env} {Q : Env → Prop}, (setAllT is ds ρ).run Q → ds.length = is.length
  | [], [], _, _, _ => rfl
  | [], _ :: _, _, _, h => (show False from h).elim
  | .inl i :: is, d :: ds, ρ, Q, h => by rw [List.length_cons, List.length_cons, setAllT_len (is := is) (ds := ds) h]
  | .inl _ :: _, [], _, _, h => (show False from h).elim
  | .inr _ :: _, [], _, _, h => (show False from h).elim
  | .inr js :: is, d :: ds, ρ, Q, h => by
    cases d with
    | tup es =>
      have h : ((setAll js es ρ).bind fun ρ' => setAllT is ds ρ').run Q := h
      rw [W.run_bind] at h
      obtain ⟨ρ', h⟩ := setAll_some h
      rw [List.length_cons, List.length_cons, setAllT_len (is := is) (ds := ds) h]
    | _ => exact (show False from h).elim
theorem g_tt {es : List Expr} {k : Nat} {is : List (Nat ⊕ List Nat)} (h : EvGsT M S es is) (hn : ∀ env, (assignEach es env).length = is.length := by intro _; kernel_rfl) (hst : ∀ env, (assignEach es env).findIdx? (·.1) = none := by intro _; kernel_rfl) :
    EvG M S (.Tuple es k pos) (.tt is) := fun X G => by
  refine (pg_tup G.calm (h X G) (hn _) (hst _)).imp' fun v σ H Q fc ⟨z0, H0, z, ρ, d, E, r, h⟩ => ?_
  cases d with
  | tup ds =>
    cases r with
    | tup hf r => exact ⟨_, _, rfl, .of (E.ok.sub _ _ hf), by rw [r.length]; exact setAllT_len h, z0, H0, z, ρ, ds, E, r, h⟩
  | _ => exact (show False from h).elim
end
end PW

set_option Elab.async false
set_option linter.all false
set_option maxRecDepth 100000
set_option maxHeartbeats 1000000
namespace PW
open PySem PySem.Spec PyProof.Rows L2

/-! ### an object that nobody else knows changes -/
section
variable {K : PySem.W.Frag} {mg : Str → Option Value} {z z' z0 : Z} {H H' H0 : Hp} {p : Addr} {o : HO} {mt : Mt} {σ : Sg} {ρ : Env}
theorem ZOk.other (h : ZOk K z H) (hf : z.f p = none) (hβ : ¬ z.β p) : ZOk K z (upd H p o) :=
  ⟨fun b x e => by rw [upd_ne (ne_of_none e hf)]; exact h.sub b x e, h.bag.keep (Same.refl _) ⟨rfl, rfl⟩ (fun a e => (h.bag a e).1) fun a o' e q => by rw [upd_ne (by intro x; exact hβ (by rw [← x]; exact e))]; exact q, h.nb⟩
theorem Step.other (s : Step K z H z' H') (hp : fr H p) (hf : z'.f p = none) (hβ : ¬ z'.β p) : Step K z H z' (upd H' p o) :=
  ⟨s.le, s.ok.other hf hβ, fun b x h1 h2 h3 => by rw [upd_ne (ne_of_fr h2 h3 hp)]; exact s.keep b x h1 h2 h3, s.new, s.βn⟩
theorem EnvR.other (E : EnvR mt K mg z0 H0 z H σ ρ) (hp : fr H0 p) (hf : z.f p = none) (hβ : ¬ z.β p) (hs : ∀ i d, i ∈ mt → ρ[i]? = some (some d) → σ[i]? ≠ some (some (.ref p))) : EnvR mt K mg z0 H0 z (upd H p o) σ ρ := by
  refine ⟨E.st.other hp hf hβ, E.base, E.len, E.val, fun i d hi e => ?_, E.apart⟩
  obtain ⟨v, e2, a, o', rfl, f0, h0, b, q, c⟩ := E.own i d hi e
  refine ⟨_, e2, a, o', rfl, f0, h0, b, ?_, c⟩
  rw [upd_ne (fun x => hs i d hi e (by rw [e2, x]))]
  exact q
/-- the same slots forgotten in both -/
def wipeE (ρ : Env) : List Nat → Env
  | [] => ρ
  | v :: vs => (wipeE ρ vs).set v none
theorem wipeE_some {ρ : Env} {i : Nat} {d : D} : ∀ {vs : List Nat}, (wipeE ρ vs)[i]? = some (some d) → ρ[i]? = some (some d) ∧ i ∉ vs
  | [], h => ⟨h, List.not_mem_nil⟩
  | v :: vs, h => by
    unfold wipeE at h
    by_cases e : v = i
    · subst e
      by_cases hl : v < (wipeE ρ vs).length
      · rw [List.getElem?_set_self hl] at h; cases h
      · rw [List.getElem?_eq_none (by rw [List.length_set]; omega)] at h; cases h
    · rw [List.getElem?_set_ne e] at h
      obtain ⟨h1, h2⟩ := wipeE_some h
      exact ⟨h1, fun m => (List.mem_cons.mp m).elim (fun q => e q.symm) h2⟩
theorem wipeE_out {ρ : Env} {i : Nat} : ∀ {vs : List Nat}, i ∉ vs → (wipeE ρ vs)[i]? = ρ[i]?
  | [], _ => rfl
  | v :: vs, h => by
    unfold wipeE
    rw [List.getElem?_set_ne (fun (e : v = i) => h (by rw [e]; exact List.mem_cons_self))]
    exact wipeE_out fun m => h (List.mem_cons_of_mem _ m)
theorem wipeE_len {ρ : Env} : ∀ vs : List Nat, (wipeE ρ vs).length = ρ.length
  | [] => rfl
  | v :: vs => by unfold wipeE; rw [List.length_set, wipeE_len vs]
theorem EnvR.wipe (E : EnvR mt K mg z0 H0 z H σ ρ) (vs : List Nat) : EnvR mt K mg z0 H0 z H (L2.wipe σ vs) (wipeE ρ vs) := by
  have key : ∀ {i : Nat}, i ∉ vs → (L2.wipe σ vs)[i]? = σ[i]? := fun h => wipe_out h
  refine ⟨E.st, E.base, by rw [wipeE_len, wipe_length]; exact E.len, fun i d hi e => ?_, fun i d hi e => ?_, fun i j d e hi hj hij q q' => ?_⟩
  · obtain ⟨e1, e2⟩ := wipeE_some e
    rw [key e2]
    exact E.val i d hi e1
  · obtain ⟨e1, e2⟩ := wipeE_some e
    rw [key e2]
    exact E.own i d hi e1
  · obtain ⟨e1, e2⟩ := wipeE_some q
    obtain ⟨e3, e4⟩ := wipeE_some q'
    rw [key e2, key e4]
    exact E.apart i j d e hi hj hij e1 e3
theorem wipe_wipe {σ : Sg} {vs : List Nat} : L2.wipe (L2.wipe σ vs) vs = L2.wipe σ vs := by
  apply List.ext_getElem?
  intro j
  rw [wipe_get vs j, wipe_get vs j, wipe_length]
  by_cases hj : j ∈ vs
  · rw [if_pos hj, if_pos hj]
  · rw [if_neg hj, if_neg hj]
theorem EnvR.nown (E : EnvR mt K mg z0 H0 z H σ ρ) (hp : H p = none) : ∀ i d, i ∈ mt → ρ[i]? = some (some d) → σ[i]? ≠ some (some (.ref p)) := fun i d hi e q => by
  obtain ⟨v, e2, a, o', rfl, f0, h0, b, q2, c⟩ := E.own i d hi e
  rw [e2] at q
  cases q
  rw [hp] at q2
  cases q2
theorem EnvR.nown' (E : EnvR mt K mg z0 H0 z H σ ρ) (hp : fr H p) : ∀ i d, i ∈ mt → ρ[i]? = some (some d) → σ[i]? ≠ some (some (.ref p)) := fun i d hi e q => by
  obtain ⟨v, e2, a, o', rfl, f0, h0, b, q2, c⟩ := E.own i d hi e
  rw [e2] at q
  cases q
  exact hp _ q2 c.nt.nb
end

/-! ### the block of a comprehension -/
def Fix.blk (S : Fix) (scope : Scope) : Fix := ⟨S.N, relS scope S.sc, fun x => scope.names.lookup x == some .cell, S.mt⟩
def Good.blk {M : Mo} {S : Fix} {X : Cx} (G : Good M S X) (s : Shared) (H : Hp) (scope : Scope) (C : Addr) (cl : List (Str × Addr)) (fp : List Addr) : Good M.nox (S.blk scope) (X.blk s H scope (compEnvC scope cl C X.env) fp) := by
  refine ⟨G.ok, G.N, G.nd, ?_, rfl, G.calm, fun _ _ _ => takesF fun h => wx0 h, PassesOwn.never, G.tb, G.tz, G.tab, G.room, G.free, G.con, G.xc, fun h => Bool.noConfusion h, fun h => Bool.noConfusion h, G.hd, fun h => Bool.noConfusion h⟩
  show relS scope X.env.scope = relS scope S.sc
  rw [G.sc]
def EvTs (M : Mo) (S : Fix) (ifs : List Expr) (p : Env → W Bool) : Prop := ∀ X (G : Good M S X), PTs X ifs (tTs X.K X.mg G.m p)
section
variable {M : Mo} {S : Fix}
theorem ts_nil : EvTs M S [] fun _ => W.pure true := fun X G => ⟨fun pins s σ H Q I ⟨z0, H0, z, ρ, E, h⟩ => pts_nil.run pins s σ H Q I (h z H (Step.refl E.ok) (fct_of I))⟩
theorem ts_one {c : Expr} {p : Env → W Bool} (h : EvT M S c p) : EvTs M S [c] p := fun X G => pts_one (h X G)
end

/-- [elt for t in ds if p]: what is made, behind acc -/
def compW (t : Tgt) (p : Env → W Bool) (f : Env → W D) : List D → Env → List D → W (List D)
  | [], _, acc => W.pure acc
  | d :: ds, ρ, acc => (t.set d ρ).bind fun ρ' => (p ρ').bind fun b => if b = true then (f ρ').bind fun y => compW t p f ds ρ (acc ++ [y]) else compW t p f ds ρ acc
theorem drop_get {α : Type} {ds : List α} {i : Nat} {d : α} (h : ds[i]? = some d) : ds.drop i = d :: ds.drop (i + 1) := by
  obtain ⟨hl, e⟩ := List.getElem?_eq_some_iff.mp h
  rw [List.drop_eq_getElem_cons hl, e]

/-- the state of a comprehension: D the list it makes -/
structure CSt (mt : Mt) (K : PySem.W.Frag) (mg : Str → Option Value) (z0 : Z) (H0 : Hp) (zb : Z) (Hb : Hp) (z1 : Z) (Dl : Addr) (σ : Sg) (ρ : Env) (acc : List D) (z' : Z) (H' : Hp) : Prop where
  env : EnvR mt K mg z0 H0 z' H' σ ρ
  le : Z.le z1 z'
  st : Step K zb Hb z' H'
  f0 : z'.f Dl = none
  nβ : ¬ z'.β Dl
  own : ∀ i d, i ∈ mt → ρ[i]? = some (some d) → σ[i]? ≠ some (some (.ref Dl))
  h0 : fr H0 Dl
  hb : fr Hb Dl
  at_ : ∃ av, H' Dl = some (.lst av) ∧ RpL K mg z' av acc
section
variable {K : PySem.W.Frag} {mg : Str → Option Value} {z z' z0 z1 zb : Z} {H H' H0 Hb : Hp} {Dl : Addr} {mt : Mt} {σ : Sg} {ρ : Env} {acc : List D}
theorem CSt.step {z'' : Z} {H'' : Hp} (c : CSt mt K mg z0 H0 zb Hb z1 Dl σ ρ acc z' H') (s : Step K z' H' z'' H'') : CSt mt K mg z0 H0 zb Hb z1 Dl σ ρ acc z'' H'' := by
  obtain ⟨av, q, r⟩ := c.at_
  refine ⟨c.env.step s, c.le.trans s.le, c.st.trans s, s.new _ _ c.f0 q trivial, fun e => ?_, c.own, c.h0, c.hb, av, s.keep _ _ c.nβ q trivial, r.le s.le⟩
  rcases s.βn _ e with e | e
  · exact c.nβ e
  · exact e _ q trivial
theorem CSt.push {v : V} {d : D} (c : CSt mt K mg z0 H0 zb Hb z1 Dl σ ρ acc z' H') (r : Rp K mg z' v d) : ∃ av, H' Dl = some (.lst av) ∧ av.length = acc.length ∧ CSt mt K mg z0 H0 zb Hb z1 Dl σ ρ (acc ++ [d]) z' (upd H' Dl (.lst (av ++ [v]))) := by
  obtain ⟨av, q, ra⟩ := c.at_
  exact ⟨av, q, ra.length, c.env.other c.h0 c.f0 c.nβ c.own, c.le, c.st.other c.hb c.f0 c.nβ, c.f0, c.nβ, c.own, c.h0, c.hb, _, upd_same, ra.append (.cons r .nil)⟩
theorem CSt.begin (E : EnvR mt K mg z0 H0 zb Hb σ ρ) (st : Step K zb Hb z1 H) (hd : H Dl = none) : CSt mt K mg z0 H0 zb Hb z1 Dl σ ρ [] z1 (upd H Dl (.lst [])) := by
  have E1 := E.step st
  exact ⟨E1.step (Step.fresh st.ok hd), Z.le.refl _, st.trans (Step.fresh st.ok hd), st.ok.free hd, st.ok.nβ hd, E1.nown hd, E1.st.was hd, st.was hd, [], upd_same, .nil⟩
theorem CSt.fin {Q : VK} (c : CSt mt K mg z0 H0 zb Hb z1 Dl σ ρ acc z' H') (fc : Fct K H') (k : kF K mg zb Hb Q (.lst acc)) : Q (.ref Dl) H' := by
  obtain ⟨av, q, r⟩ := c.at_
  exact k Dl _ z' H' c.st fc c.hb c.f0 c.nβ q (.lst r)
end

section
variable {M : Mo} {S : Fix} {tg iter elt : Expr} {ifs : List Expr} {scope : Scope} {own : List (Str × Nat)} {pos : Pos} {fi : Env → W (List D)} {t : Tgt} {p : Env → W Bool} {f : Env → W D}
/-- a list comprehension -/
def lcW (fi : Env → W (List D)) (t : Tgt) (p : Env → W Bool) (f : Env → W D) (vs : List Nat) : Env → W D := fun ρ => (fi ρ).bind fun ds => (compW t p f ds (wipeE ρ vs) []).bind fun r => W.pure (.lst r)
theorem lc_read {K : PySem.W.Frag} {mg : Str → Option Value} {mt : Mt} (vs : List Nat) (hsub : ∀ j ∈ t.slots, j ∈ vs) {σ : Sg} {H : Hp} {Q : VK} (hh : tFr K mg mt (lcW fi t p f vs) σ H Q) :
    tLc (tI K mg mt fi) (tG K mg mt t) (tTs K mg mt p) (tV K mg mt f) vs σ H (fun v H' => Fct K H' → Q v H') := by
  obtain ⟨z0, H0, z, ρ, E, h⟩ := hh
  refine ⟨z0, H0, z, ρ, E, (fi ρ).mono (fun ds k J z1 H1 st1 fc1 wk => fun Dl hDl => ?_) h⟩
  obtain ⟨⟨n, Gp, Y, wlk, hn, hG, hY⟩, hsz⟩ := wk
  refine lc_it wlk (fun i H' => ∃ acc z', CSt mt K mg z0 H0 z H z1 Dl (wipe σ vs) (wipeE ρ vs) acc z' H' ∧ acc.length ≤ i ∧
    (compW t p f (ds.drop i) (wipeE ρ vs) acc).run fun r => kF K mg z H Q (.lst r)) ⟨[], z1, CSt.begin (E.wipe vs) st1 hDl, Nat.zero_le _, k⟩ (fun i H' hi ⟨acc, z', c, hl, q⟩ => hG z' H' c.le c.st.ok) (fun i x H' H'' hi ⟨acc, z', c, hl, q⟩ y => ?_) fun H' ⟨acc, z', c, hl, q⟩ fc' => ?_
  · obtain ⟨z'', d, ed, st, r⟩ := hY i H' x H'' z' c.le c.st.ok hi y
    rw [drop_get ed] at q
    have c2 := c.step st
    refine ⟨z0, H0, z'', _, d, c2.env, r, (t.set d _).mono (fun ρ' k σ' E' w' m' => ⟨(w' vs hsub).trans wipe_wipe, z0, H0, z'', ρ', E', (p ρ').mono (fun b k z3 H3 st3 fc3 => ?_) k⟩) q⟩
    cases b with
    | false =>
      rw [if_neg Bool.false_ne_true]
      exact ⟨acc, z3, c2.step st3, by omega, k⟩
    | true =>
      rw [if_pos rfl]
      refine ⟨z0, H0, z3, ρ', E'.step st3, (f ρ').mono (fun y k v z4 H4 st4 fc4 r4 => ?_) k⟩
      obtain ⟨av, e1, e2, c3⟩ := ((c2.step st3).step st4).push r4
      exact ⟨av, e1, by omega, acc ++ [y], z4, c3, by rw [List.length_append]; show acc.length + 1 ≤ i + 1; omega, k⟩
  · rw [hn, List.drop_length] at q
    exact c.fin fc' q
theorem f_lc (own : List (Str × Nat)) (hi : EvI M S tg iter fi) (hg : EvG M.nox (S.blk scope) tg t) (ht : EvTs M.nox (S.blk scope) ifs p) (he : EvV M.nox (S.blk scope) elt f) (hok : blkC S.N S.sc scope own = true := by kernel_rfl)
    (hsl : (t.slots.all fun j => (own.map (·.2)).contains j) = true := by kernel_rfl) (hs : ∀ env x, foldedSetIterable iter env x = pure x := by intro _ _; kernel_rfl) :
    EvF M S (.ListComp elt [⟨tg, iter, ifs, 0⟩] scope pos) (lcW fi t p f (own.map (·.2))) := fun X G =>
  (pe_lc (own := own) (g := tG X.K X.mg G.m t) (tt := tTs X.K X.mg G.m p) (te := tV X.K X.mg G.m f) G.calm (by rw [G.N]; exact G.nd) (hi X G) (blkOk_by (by rw [G.N, G.sc]; exact hok)) (fun s H C cl fp => hg _ (G.blk s H scope C cl fp)) (fun s H C cl fp => ht _ (G.blk s H scope C cl fp))
    (fun s H C cl fp => he _ (G.blk s H scope C cl fp)) (hs _)).impW fun σ H Q fc h => lc_read _ (fun j hj => List.contains_iff_mem.mp (List.all_eq_true.mp hsl j hj)) h

/-- the inner clause -/
def compI (t : Tgt) (p : Env → W Bool) (f : Env → W D) : List D → Env → List D → W (List D)
  | [], _, acc => W.pure acc
  | d :: ds, ρ, acc => (t.set d ρ).bind fun ρ' => (p ρ').bind fun b => if b = true then (f ρ').bind fun y => (W.need (acc.length < sizeLine)).bind fun _ => compI t p f ds ρ (acc ++ [y]) else compI t p f ds ρ acc
def compO (t : Tgt) (p : Env → W Bool) (fi1 : Env → W (List D)) (vs1 : List Nat) (t1 : Tgt) (p1 : Env → W Bool) (f : Env → W D) : List D → Env → List D → W (List D)
  | [], _, acc => W.pure acc
  | d :: ds, ρ, acc => (t.set d ρ).bind fun ρ' => (p ρ').bind fun b => if b = true then (fi1 ρ').bind fun ds1 => (compI t1 p1 f ds1 (wipeE ρ' vs1) acc).bind fun acc' => compO t p fi1 vs1 t1 p1 f ds ρ acc'
    else compO t p fi1 vs1 t1 p1 f ds ρ acc
/-- one clause's run within a comprehension -/
theorem inner_run {K : PySem.W.Frag} {mg : Str → Option Value} {mt : Mt} {z0 z1 zb : Z} {H0 Hb : Hp} {Dl : Addr} {σ1 : Sg} {ρ1 : Env} {t1 : Tgt} {p1 : Env → W Bool} {J1 : It} {ds1 : List D} {acc : List D} {Nx : Hp → Prop} {K' : List D → Prop} {z4 : Z} {H4 : Hp} {n : Nat} {Gp : Hp → Prop} {Y : Nat → Hp → V → Hp → Prop} {vs1 : List Nat}
    (wlk : Walk J1 n Gp Y) (hn : n = ds1.length) (hG : ∀ z' H', Z.le z4 z' → ZOk K z' H' → Gp H')
    (hY : ∀ i H x H' z', Z.le z4 z' → ZOk K z' H → i < n → Y i H x H' → ∃ z'' d, ds1[i]? = some d ∧ Step K z' H z'' H' ∧ Rp K mg z'' x d)
    (hsub : ∀ j ∈ t1.slots, j ∈ vs1) (c : CSt mt K mg z0 H0 zb Hb z1 Dl (wipe σ1 vs1) (wipeE ρ1 vs1) acc z4 H4) (q : (compI t1 p1 f ds1 (wipeE ρ1 vs1) acc).run K')
    (hN : ∀ acc' z' H', Z.le z4 z' → CSt mt K mg z0 H0 zb Hb z1 Dl (wipe σ1 vs1) (wipeE ρ1 vs1) acc' z' H' → K' acc' → Nx H') :
    ∃ W1 : Nat → Nat → Hp → Prop, (∃ m, W1 0 m H4) ∧ ∀ j k H, W1 j k H →
      (J1.stop j H ∧ Nx H) ∨ (J1.go j H ∧ ∃ Nx1 : Hp → Prop, (∀ H', Nx1 H' → ∃ k', k' < k ∧ W1 (j + 1) k' H') ∧ ∀ x H', J1.yld j H x H' → tG K mg mt t1 x (wipe σ1 vs1) H' fun σ3 H5 => wipe σ3 vs1 = wipe σ1 vs1 ∧ tTs K mg mt p1 σ3 H5 fun b H6 =>
        if b = true then tV K mg mt f σ3 H6 fun y H7 => ∃ acc, H7 Dl = some (.lst acc) ∧ acc.length < sizeLine ∧ Nx1 (upd H7 Dl (.lst (acc ++ [y]))) else Nx1 H6) := by
  refine ⟨fun j k H => k = n - j ∧ j ≤ n ∧ ∃ acc z', CSt mt K mg z0 H0 zb Hb z1 Dl (wipe σ1 vs1) (wipeE ρ1 vs1) acc z' H ∧ Z.le z4 z' ∧ (compI t1 p1 f (ds1.drop j) (wipeE ρ1 vs1) acc).run K', ⟨n, by simp, Nat.zero_le _, acc, z4, c, Z.le.refl _, q⟩, ?_⟩
  rintro j k H' ⟨rfl, hj, acc, z', c, l, q⟩
  have hGH := hG z' H' l c.st.ok
  by_cases hlt : j < n
  · refine .inr ⟨wlk.goes j H' hlt hGH, fun H' => ∃ acc z', CSt mt K mg z0 H0 zb Hb z1 Dl (wipe σ1 vs1) (wipeE ρ1 vs1) acc z' H' ∧ Z.le z4 z' ∧ (compI t1 p1 f (ds1.drop (j + 1)) (wipeE ρ1 vs1) acc).run K',
      fun H' hx => ⟨n - (j + 1), by omega, rfl, hlt, hx⟩, fun x H'' y => ?_⟩
    obtain ⟨z'', d, ed, st, r⟩ := hY j H' x H'' z' l c.st.ok hlt (wlk.yields j H' x H'' hlt hGH y)
    rw [drop_get ed] at q
    have c2 := c.step st
    refine ⟨z0, H0, z'', _, d, c2.env, r, (t1.set d _).mono (fun ρ' k σ' E' w' m' => ⟨(w' vs1 hsub).trans wipe_wipe, z0, H0, z'', ρ', E', (p1 ρ').mono (fun b k z3 H3 st3 fc3 => ?_) k⟩) q⟩
    cases b with
    | false =>
      rw [if_neg Bool.false_ne_true]
      exact ⟨acc, z3, c2.step st3, (l.trans st.le).trans st3.le, k⟩
    | true =>
      rw [if_pos rfl]
      refine ⟨z0, H0, z3, ρ', E'.step st3, (f ρ').mono (fun y k v z4' H4' st4 fc4 r4 => ?_) k⟩
      obtain ⟨hz, k⟩ := k
      obtain ⟨av, e1, e2, c3⟩ := ((c2.step st3).step st4).push r4
      exact ⟨av, e1, by omega, acc ++ [y], z4', c3, ((l.trans st.le).trans st3.le).trans st4.le, k⟩
  · have e : j = n := by omega
    subst e
    rw [hn, List.drop_length] at q
    exact .inl ⟨wlk.stops H' hGH, hN acc z' H' l c q⟩
theorem CSt.chg {K : PySem.W.Frag} {mg : Str → Option Value} {z' z0 z1 zb : Z} {H' H0 Hb : Hp} {Dl : Addr} {mt : Mt} {σ σ' : Sg} {ρ ρ' : Env} {acc : List D} (c : CSt mt K mg z0 H0 zb Hb z1 Dl σ ρ acc z' H') (E : EnvR mt K mg z0 H0 z' H' σ' ρ')
    (h : ∀ i ∈ mt, ∀ d, ρ'[i]? = some (some d) → ∃ d', ρ[i]? = some (some d') ∧ σ'[i]? = σ[i]?) : CSt mt K mg z0 H0 zb Hb z1 Dl σ' ρ' acc z' H' :=
  ⟨E, c.le, c.st, c.f0, c.nβ, fun i d hi e => by
    obtain ⟨d', e1, e2⟩ := h i hi d e
    rw [e2]
    exact c.own i d' hi e1, c.h0, c.hb, c.at_⟩
def lc2W (fi : Env → W (List D)) (t : Tgt) (p : Env → W Bool) (fi1 : Env → W (List D)) (vs1 : List Nat) (t1 : Tgt) (p1 : Env → W Bool) (f : Env → W D) (vs : List Nat) : Env → W D := fun ρ => (fi ρ).bind fun ds => (compO t p fi1 vs1 t1 p1 f ds (wipeE ρ vs) []).bind fun r => W.pure (.lst r)
theorem lc2_read {K : PySem.W.Frag} {mg : Str → Option Value} {mt : Mt} {fi1 : Env → W (List D)} {t1 : Tgt} {p1 : Env → W Bool} (vs vs1 : List Nat) (hsub : ∀ j ∈ t.slots, j ∈ vs) (hsub1 : ∀ j ∈ t1.slots, j ∈ vs1) (hsubv : ∀ j ∈ vs1, j ∈ vs) {σ : Sg} {H : Hp} {Q : VK} (hh : tFr K mg mt (lc2W fi t p fi1 vs1 t1 p1 f vs) σ H Q) :
    tLc2 (tI K mg mt fi) (tG K mg mt t) (tTs K mg mt p) (tI K mg mt fi1) (tG K mg mt t1) (tTs K mg mt p1) (tV K mg mt f) vs vs1 σ H (fun v H' => Fct K H' → Q v H') := by
  obtain ⟨z0, H0, z, ρ, E, h⟩ := hh
  refine ⟨z0, H0, z, ρ, E, (fi ρ).mono (fun ds k J z1 H1 st1 fc1 wk => fun Dl hDl => ?_) h⟩
  obtain ⟨⟨n, Gp, Y, wlk, hn, hG, hY⟩, hsz⟩ := wk
  refine ⟨fun i m H' => m = n - i ∧ i ≤ n ∧ ∃ acc z', CSt mt K mg z0 H0 z H z1 Dl (wipe σ vs) (wipeE ρ vs) acc z' H' ∧
    (compO t p fi1 vs1 t1 p1 f (ds.drop i) (wipeE ρ vs) acc).run fun r => kF K mg z H Q (.lst r), ⟨n, by simp, Nat.zero_le _, [], z1, CSt.begin (E.wipe vs) st1 hDl, k⟩, ?_⟩
  rintro i m H' ⟨rfl, hi', acc, z', c, q⟩
  have hGH := hG z' H' c.le c.st.ok
  by_cases hlt : i < n
  · refine .inr ⟨wlk.goes i H' hlt hGH, fun H' => ∃ acc z', CSt mt K mg z0 H0 z H z1 Dl (wipe σ vs) (wipeE ρ vs) acc z' H' ∧ (compO t p fi1 vs1 t1 p1 f (ds.drop (i + 1)) (wipeE ρ vs) acc).run fun r => kF K mg z H Q (.lst r),
      fun H' hx => ⟨n - (i + 1), by omega, rfl, hlt, hx⟩, fun x H'' y => ?_⟩
    obtain ⟨z'', d, ed, st, r⟩ := hY i H' x H'' z' c.le c.st.ok hlt (wlk.yields i H' x H'' hlt hGH y)
    rw [drop_get ed] at q
    have c2 := c.step st
    refine ⟨z0, H0, z'', _, d, c2.env, r, (t.set d _).mono (fun ρ' k σ' E' w' m' => ⟨(w' vs hsub).trans wipe_wipe, z0, H0, z'', ρ', E', (p ρ').mono (fun b k z3 H3 st3 fc3 => ?_) k⟩) q⟩
    cases b with
    | false =>
      rw [if_neg Bool.false_ne_true]
      exact ⟨acc, z3, c2.step st3, k⟩
    | true =>
      rw [if_pos rfl]
      refine ⟨z0, H0, z3, ρ', E'.step st3, (fi1 ρ').mono (fun ds1 k J1 z4 H4 st4 fc4 wk1 => ?_) k⟩
      obtain ⟨⟨n1, Gp1, Y1, wlk1, hn1, hG1, hY1⟩, hsz1⟩ := wk1
      have c4 := (c2.step st3).step st4
      have E4 := (E'.step st3).step st4
      refine inner_run (σ1 := σ') (ρ1 := ρ') (vs1 := vs1) wlk1 hn1 hG1 hY1 hsub1 (c4.chg (E4.wipe vs1) fun i hi d e => ?_) k fun acc' z5 H5 l5 c5 k5 => ?_
      · obtain ⟨e1, e2⟩ := wipeE_some e
        rw [(m' i hi).2] at e1
        exact ⟨d, e1, by rw [wipe_out e2]; exact (m' i hi).1⟩
      · have hle : Z.le z'' z5 := (st3.le.trans st4.le).trans l5
        have key : ∀ i, i ∈ mt → ∀ d, (wipeE ρ vs)[i]? = some (some d) → (wipeE ρ' vs1)[i]? = some (some d) ∧ (wipe σ' vs1)[i]? = (wipe σ vs)[i]? := fun i hi d e => by
          obtain ⟨e1, e2⟩ := wipeE_some e
          have e3 : i ∉ vs1 := fun m => e2 (hsubv i m)
          exact ⟨by rw [wipeE_out e3, (m' i hi).2]; exact e, by rw [wipe_out e3]; exact (m' i hi).1⟩
        have E6 := c5.env
        have E5 : EnvR mt K mg z0 H0 z5 H5 (wipe σ vs) (wipeE ρ vs) := by
          refine ⟨E6.st, E6.base, (c2.env).len, fun j d hj e1 => ?_, fun j d hj e1 => ?_, c2.env.apart⟩
          · obtain ⟨v, e2, r2⟩ := c2.env.val j d hj e1
            exact ⟨v, e2, r2.le hle⟩
          · obtain ⟨e2, e3⟩ := key j hj d e1
            rw [← e3]
            exact E6.own j d hj e2
        refine ⟨acc', z5, c5.chg E5 fun i hi d e => ?_, k5⟩
        obtain ⟨e2, e3⟩ := key i hi d e
        exact ⟨d, e2, e3.symm⟩
  · have e : i = n := by omega
    subst e
    rw [hn, List.drop_length] at q
    exact .inl ⟨wlk.stops H' hGH, fun fc' => c.fin fc' q⟩
theorem f_lc2 {tg1 iter1 : Expr} {ifs1 : List Expr} {fi1 : Env → W (List D)} {t1 : Tgt} {p1 : Env → W Bool} (own : List (Str × Nat)) (vs1 : List Nat) (hi : EvI M S tg iter fi) (hg : EvG M.nox (S.blk scope) tg t) (ht : EvTs M.nox (S.blk scope) ifs p)
    (hi1 : EvI M.nox (S.blk scope) tg1 iter1 fi1) (hg1 : EvG M.nox (S.blk scope) tg1 t1) (ht1 : EvTs M.nox (S.blk scope) ifs1 p1) (he : EvV M.nox (S.blk scope) elt f) (hok : blkC S.N S.sc scope own = true := by kernel_rfl)
    (hsl : (t.slots.all fun j => (own.map (·.2)).contains j) = true := by kernel_rfl) (hsl1 : (t1.slots.all fun j => vs1.contains j) = true := by kernel_rfl) (hv1 : (vs1.all fun j => (own.map (·.2)).contains j) = true := by kernel_rfl)
    (hs : ∀ env x, foldedSetIterable iter env x = pure x := by intro _ _; kernel_rfl) (hs1 : ∀ env x, foldedSetIterable iter1 env x = pure x := by intro _ _; kernel_rfl) :
    EvF M S (.ListComp elt [⟨tg, iter, ifs, 0⟩, ⟨tg1, iter1, ifs1, 0⟩] scope pos) (lc2W fi t p fi1 vs1 t1 p1 f (own.map (·.2))) := fun X G => by
  have hsub1 : ∀ j ∈ t1.slots, j ∈ vs1 := fun j hj => List.contains_iff_mem.mp (List.all_eq_true.mp hsl1 j hj)
  have hsubv : ∀ j ∈ vs1, j ∈ own.map (·.2) := fun j hj => List.contains_iff_mem.mp (List.all_eq_true.mp hv1 j hj)
  exact (pe_lc2 (own := own) (vs1 := vs1) (g := tG X.K X.mg G.m t) (tt := tTs X.K X.mg G.m p) (wi1 := tI X.K X.mg G.m fi1) (g1 := tG X.K X.mg G.m t1) (tt1 := tTs X.K X.mg G.m p1) (te := tV X.K X.mg G.m f) G.calm (by rw [G.N]; exact G.nd) (hi X G) (blkOk_by (by rw [G.N, G.sc]; exact hok)) hsubv
    (fun s H C cl fp => hg _ (G.blk s H scope C cl fp)) (fun s H C cl fp => ht _ (G.blk s H scope C cl fp)) (fun s H C cl fp => hi1 _ (G.blk s H scope C cl fp)) (fun s H C cl fp => hg1 _ (G.blk s H scope C cl fp)) (fun s H C cl fp => ht1 _ (G.blk s H scope C cl fp))
    (fun s H C cl fp => he _ (G.blk s H scope C cl fp)) (hs _) hs1).impW fun σ H Q fc h => lc2_read _ _ (fun j hj => List.contains_iff_mem.mp (List.all_eq_true.mp hsl j hj)) hsub1 hsubv h
end
end PW

set_option Elab.async false
set_option linter.all false
set_option maxRecDepth 100000
set_option maxHeartbeats 1000000
/-! sorting tuples, empty ones among them; the lists that sorted makes of a tuple -/
namespace PySem.SeqAt
theorem pw_call_tuple_lt {A : Around} {s : Shared} {prog : Program} {w : World} {E : Value → Shared → Prop} {Q : Value → Shared → Prop} {l b : Addr} {items items2 : Array Value} {e r : Nat → Bool} (hl : s.heap.IsTuple l items) (hb : s.heap.IsTuple b items2)
    (he : ∀ j (h1 : j < items.size) (h2 : j < items2.size), EqAt A.in1 s items[j] items2[j] (e j)) (hr : ∀ j (h1 : j < items.size) (h2 : j < items2.size), e j = false → RcLt A.in1 s items[j] items2[j] (r j))
    (h : Q (.bool (firstLt e r (decide (items.size < items2.size)) (List.range (min items.size items2.size)))) s) : wpAny (model prog w) A (call (.builtin "tuple.__lt__") [.ref l, .ref b]) Q E s := by
  obtain ⟨⟨cls, dd, data, sl⟩, ho, hc, n, hd⟩ := id hl
  obtain ⟨⟨cls2, dd2, data2, sl2⟩, ho2, hc2, n2, hd2⟩ := id hb
  simp only at hc hd hc2 hd2
  subst hc hd hc2 hd2
  exact call_meets F.slot_tuple_lt ⟨_, ho, rfl⟩ F.entry_tuple_lt (F.args_tuple_lt_2 _ _) (tuple_ltAt l b items items2 n n2 dd dd2 sl sl2 e r) ⟨ho, ho2, he, hr, h⟩
end PySem.SeqAt
namespace PySem.W
open PySem PySem.SeqAt PySem.Calls PyProof.Rows
section
variable {prog : Program} {w : World} {A : Around} {E : Value → Shared → Prop} {s : Shared}
theorem pw_oneLt_tup {f : Bool} {xs ys : List PyData} {a b : Value} {as bs : List Addr} {Q : Bool → Shared → Prop} (ra : Reads s.heap a (.tuple xs) as) (rb : Reads s.heap b (.tuple ys) bs) (h : alike (.tuple xs) (.tuple ys) = true)
    (hu : A.units + min (PyData.tuple xs).depth (PyData.tuple ys).depth < cLine) (hq : Q (dataLt (.tuple xs) (.tuple ys)) s) : wpAny (model prog w) A (oneLt' f a b) Q E s := by
  cases f with
  | false => exact oneLt_alike (fun z => nomatch z) ra rb h (fun z => nomatch z) hu hq
  | true =>
    have hal : alikeAll xs ys = true := by simpa [alike] using h
    cases ra with
    | @tuple l o vs n _ as₁ h1 h2 h3 h4 =>
      cases rb with
      | @tuple l' o' vs' n' _ bs₁ k1 k2 k3 k4 =>
        have n1 : vs.size = xs.length := by simpa using ReadsAll.length _ _ _ h4
        have n2 : vs'.size = ys.length := by simpa using ReadsAll.length _ _ _ k4
        rw [dataLt_tuple, ← firstLt_toks xs ys hal, ← n1, ← n2] at hq
        rw [oneLt'_eq]
        simp only [if_true]
        refine wpAny_bind (wpAny_cRoomFor (room_here hu) ?_)
        refine wpAny_bind (wpAny_callSpecialIfBound?_slot (T := "tuple") ⟨_, h1, h2⟩ F.slot_tuple_lt (pw_call_tuple_lt (e := pairEq xs ys) (r := fun j => dataLt (xs.getD j .none) (ys.getD j .none)) ⟨_, h1, h2, _, h3⟩ ⟨_, k1, k2, _, k3⟩ (fun j j1 j2 => ?_) (fun j j1 j2 hj => ?_) ?_))
        · have := eqAt_alikeAll xs ys A.in1 s vs.toList vs'.toList _ _ h4 k4 hal (room_in hu) j (by simpa using j1) (by simpa using j2)
          simpa using this
        · have := rcLt_alikeAll xs ys A.in1 s vs.toList vs'.toList _ _ h4 k4 hal (room_in hu) j (by simpa using j1) (by simpa using j2) hj
          simpa using this
        · exact wpAny_truthy_bool hq
end
/-- the first item of a tuple -/
def PwFst (h : Heap) (v : Value) (f : Option Value) : Prop := ∃ a o xs n, v = .ref a ∧ h.get? a = some o ∧ o.cls = .type "tuple" ∧ o.data = .seq xs n ∧ f = xs[0]?
section
variable {M : Model} {A : Around} {E : Value → Shared → Prop} {s : Shared}
theorem pw_firsts : ∀ {vs : List Value} {fs : List (Option Value)} {Q : List (Option Value) → Shared → Prop}, EachIs (PwFst s.heap) vs fs → Q fs s → wpAny M A (vs.mapM firstOfTuple') Q E s
  | _, _, _, .nil, h => by rw [List.mapM_nil]; exact wpAny_pure h
  | _, _, Q, .cons ⟨a, o, xs, n, e, ho, hc, hd, hf⟩ t, h => by
    subst e
    subst hf
    rw [List.mapM_cons]
    refine wpAny_bind ?_
    rw [kas_first_eq]
    refine wpAny_bind (Looks.here (show Looks M s.heap (typeOf (.ref a)) o.cls from (Looks.ld ho).andThen .now) ?_)
    rw [hc, if_neg (by first | decide | simp)]
    refine wpAny_bind (listItems_at ho hd (wpAny_pure ?_))
    exact wpAny_bind (pw_firsts (Q := fun bs s' => wpAny M A (pure (xs[0]? :: bs)) Q E s') t (wpAny_pure h))
theorem pw_each_all : ∀ {vs : List Value} {fs : List (Option Value)}, EachIs (PwFst s.heap) vs fs → ∀ v ∈ vs, Looks M s.heap (typeOf v) (.type "tuple")
  | _, _, .cons ⟨a, o, xs, n, e, ho, hc, hd, hf⟩ t, v, hv => by
    rcases List.mem_cons.mp hv with rfl | hv
    · subst e
      exact hc ▸ (Looks.ld ho).andThen .now
    · exact pw_each_all t v hv
theorem pw_kind_mixed {M : Model} {A : Around} {s : Shared} {vs : List Value} {fs : List (Option Value)} (t : EachIs (PwFst s.heap) vs fs) (hne : 0 < vs.length) (hno : fs.all (·.isSome) = false) :
    ∃ kd : SortKind, (kd = general' ∨ kd = oneType') ∧ ∀ (E : Value → Shared → Prop) {Q : SortKind → Shared → Prop}, Q kd s → wpAny M A (keyKind' vs.toArray) Q E s := by
  by_cases hf : ((fs.toArray[0]?).bind id).isSome = true
  · refine ⟨general', .inl rfl, fun E Q h => ?_⟩
    rw [kat_kind_eq, List.mapM_toArray, map_eq_pure_bind]
    refine wpAny_bind (wpAny_bind (pw_firsts t (wpAny_pure ?_)))
    rw [if_neg (by simp only [List.all_toArray]; rw [hno]; exact Bool.false_ne_true), if_pos hf]
    exact wpAny_pure h
  · refine ⟨oneType', .inr rfl, fun E Q h => ?_⟩
    rw [kat_kind_eq, List.mapM_toArray, map_eq_pure_bind]
    refine wpAny_bind (wpAny_bind (pw_firsts t (wpAny_pure ?_)))
    rw [if_neg (by simp only [List.all_toArray]; rw [hno]; exact Bool.false_ne_true), if_neg hf]
    rw [oneTypeOnly'_eq, List.mapM_toArray, map_eq_pure_bind]
    refine wpAny_bind (wpAny_bind (wpAny_bind (kas_mapM (r := Value.type "tuple") _ (fun v hv Q' hq => (pw_each_all t v hv).here hq) (wpAny_pure ?_))))
    have hall : ((List.map (fun _ => Value.type "tuple") vs).toArray.all fun x => x == Value.type "tuple") = true := by
      simp only [List.all_toArray, List.all_map, List.all_eq_true]
      intro _ _
      rfl
    have h0 : (List.map (fun _ => Value.type "tuple") vs).toArray[0]? = some (Value.type "tuple") := by
      cases vs with
      | nil => exact absurd hne (Nat.lt_irrefl 0)
      | cons v vs => simp
    rw [h0]
    simp only [hall, if_true]
    exact wpAny_pure (wpAny_pure h)
end
/-- all are tuples with an item at least, or all are tuples, or none is a tuple or None -/
def PwSortable (ds : List PyData) : Prop := (∀ d, d ∈ ds → ∃ xs, d = .tuple xs) ∨ ∀ d, d ∈ ds → d ≠ .none ∧ ∀ xs, d ≠ .tuple xs
section
variable {prog : Program} {w : World} {A : Around} {s : Shared}
theorem pw_fsts : ∀ {vs : List Value} {ds : List PyData}, EachIs (fun v d => ∃ as, Reads s.heap v d as) vs ds → (∀ d, d ∈ ds → ∃ xs, d = .tuple xs) → ∃ fs, EachIs (PwFst s.heap) vs fs ∧ (fs.all (·.isSome) = true → ∀ d, d ∈ ds → ∃ x r, d = .tuple (x :: r))
  | _, _, .nil, _ => ⟨[], .nil, fun _ d hd => absurd hd (by simp)⟩
  | _, _, .cons (b := d) ⟨as, r⟩ t, ht => by
    obtain ⟨fs, h1, h2⟩ := pw_fsts t fun d hd => ht d (List.mem_cons_of_mem _ hd)
    obtain ⟨ys, rfl⟩ := ht d List.mem_cons_self
    cases r with
    | @tuple a o xs n _ _ ho hc hdd hr =>
      refine ⟨xs[0]? :: fs, .cons ⟨a, o, xs, n, rfl, ho, hc, hdd, rfl⟩ h1, fun hall d hd => ?_⟩
      rw [List.all_cons, Bool.and_eq_true] at hall
      rcases List.mem_cons.mp hd with rfl | hd
      · cases ys with
        | cons y ys => exact ⟨y, ys, rfl⟩
        | nil =>
          have e : xs.toList.length = 0 := by
            cases q : xs.toList with
            | nil => rfl
            | cons _ _ => rw [q] at hr; cases hr
          rw [Array.length_toList] at e
          rw [Array.getElem?_eq_none (by omega)] at hall
          exact absurd hall.1 (by simp)
      · exact h2 hall.2 d hd
theorem pw_sortsAt {vs : List Value} {ds : List PyData} (e : EachIs (fun v d => ∃ as, Reads s.heap v d as) vs ds) (hal : AllAlike ds) (hk : PwSortable ds) (hu : ∀ d, d ∈ ds → A.units + d.depth < cLine) : SortsAt prog w A s (dataKind s.heap ds) vs := by
  rcases hk with ht | hn
  · obtain ⟨fs, h1, h2⟩ := pw_fsts e ht
    cases q : fs.all (·.isSome) with
    | true => exact SortsAt.data e hal (.inl (h2 q)) hu
    | false =>
      refine ⟨fun v hv => ?_, ?_⟩
      · obtain ⟨d, hd, as, r⟩ := e.left v hv
        exact ⟨_, dataKind_some hal hd r⟩
      · have lt : ∀ kd, (∀ x y, ∃ f, keyLt' kd x y = oneLt' f x y) → H.LtAt prog w A s (dataKind s.heap ds) kd := fun kd hkd E x y a b Q ha hb hq => by
          obtain ⟨f, hf⟩ := hkd x y
          obtain ⟨d, as, hd, ra, rfl⟩ := dataKind_inv ha
          obtain ⟨d', as', hd', rb, rfl⟩ := dataKind_inv hb
          have hdd := hal d hd d' hd'
          obtain ⟨xs, rfl⟩ := ht d hd
          obtain ⟨ys, rfl⟩ := ht d' hd'
          rw [hf]
          exact pw_oneLt_tup ra rb hdd (Nat.lt_of_le_of_lt (Nat.add_le_add_left (Nat.min_le_left _ _) _) (hu _ hd)) hq
        cases vs with
        | nil =>
          cases h1
          exact absurd q (by simp)
        | cons v0 vs =>
          obtain ⟨kd, hkd, hK⟩ := pw_kind_mixed (M := model prog w) (A := A) h1 (Nat.zero_lt_succ _) q
          refine ⟨kd, lt kd fun x y => ?_, fun _ => hK⟩
          rcases hkd with rfl | rfl
          · exact ⟨false, rfl⟩
          · exact ⟨true, rfl⟩
  · exact SortsAt.data e hal (.inr hn) hu
end

section
variable {prog : Program} {w : World} {A : Around} {E : Value → Shared → Prop} {s : Shared}
theorem pw_collect_tuple {l : Addr} {vs : List Value} {Q : List Value → Shared → Prop} (hl : s.heap.IsTuple l vs.toArray)
    (h : Q vs { s with heap := (s.heap.push (seqObj "list" #[] 0)).update s.heap.objs.size (Obj.mapSeq (· ++ vs.toArray)) }) (hsz : vs.length ≤ sizeLine) :
    wpAny (model prog w) A (collect (.ref l)) Q E s := by
  obtain ⟨o, ho, hc, n, hd⟩ := id hl
  unfold collect
  refine wpAny_bind (wpAny_runValue (codeAny_builtin entry_proto_collect' ?_))
  show wpAny _ _ (do again (.builtin "list.__iadd__" ⟨[← newList [], .ref l], []⟩)) _ _ s
  refine wpAny_bind (wpAny_newList (wpAny_pure ⟨Code.quiet_builtin _ (by decide +kernel), codeAny_builtin entry_list_iadd' ?_⟩))
  show wpAny _ _ (Builtin.List.listExtendWith (.ref s.heap.objs.size) (.ref l) (.ref s.heap.objs.size)) _ _ { s with heap := s.heap.push (seqObj "list" #[] 0) }
  unfold Builtin.List.listExtendWith
  have ho' : (s.heap.push (seqObj "list" #[] 0)).get? l = some o := Heap.get?_push_of_some _ ho
  refine wpAny_bind (wpAny_typeOf (T := "tuple") ⟨o, ho', hc⟩ ?_)
  have ht : (Value.type "tuple" == Value.type "tuple") = true := by rfl
  rw [if_pos (by rw [ht]; simp)]
  refine wpAny_bind (listItems_at ho' hd ?_)
  refine wpAny_bind (listItems_at (xs := #[]) (n := 0) (Heap.get?_push_size _ rfl) rfl ?_)
  rw [if_neg (by simp)]
  refine wpAny_bind (listUpdate_at (xs := #[]) (n := 0) (Heap.get?_push_size _ rfl) rfl ?_ (Nat.zero_le _) (by show (#[] ++ vs.toArray).size ≤ sizeLine + 1; simp only [Array.size_append, List.size_toArray, List.length_nil]; omega))
  refine wpAny_pure ?_
  show wpAny (model prog w) A (do
      let o ← load s.heap.objs.size
      match o.data with
      | .seq xs _ => pure xs.toList
      | _ => unsupported "internal:collect") Q E { s with heap := (s.heap.push (seqObj "list" #[] 0)).update s.heap.objs.size (Obj.mapSeq (· ++ vs.toArray)) }
  refine wpAny_bind (wpAny_load (get?_update_seq (Heap.get?_push_size _ rfl) _) ?_)
  show wpAny _ _ (pure ((#[] : Array Value) ++ vs.toArray).toList) Q E _
  rw [show ((#[] : Array Value) ++ vs.toArray).toList = vs by simp]
  exact wpAny_pure h
/-- sorted(x), whatever collect makes of x -/
theorem pw_sorted_of {x : Value} {Q : Value → Shared → Prop} {β : Type} {enc : β → PyData} {R : Value → β → Prop} {bs : List β}
    (hc : ∀ (E' : Value → Shared → Prop) (Q' : List Value → Shared → Prop), (∀ vs h' tk, (∀ b o, s.heap.get? b = some o → h'.get? b = some o) → EachIs (fun v d => R v d ∧ ∃ as, Reads h' v (enc d) as) vs bs → Q' vs { s with heap := h', toks := tk }) → wpAny (model prog w) A.in1 (collect x) Q' E' s)
    (hal : AllAlike (bs.map enc)) (hk : PwSortable (bs.map enc)) (hL : bs.length ≤ sizeLine) (hu : ∀ b, b ∈ bs → A.units + 2 + (enc b).depth < cLine)
    (h : ∀ (p : Addr) (h1 h' : Heap) (tk' : Nat) out c, (∀ b o, s.heap.get? b = some o → h1.get? b = some o) → h1.objs.size ≤ p → (∀ b o, h1.get? b = some o → h'.get? b = some o) → h'.get? p = some (seqObj "list" (List.toArray out) c) → EachIs R out (bs.mergeSort (dataLe false enc)) → Q (.ref p) { s with heap := h', toks := tk' }) :
    wpAny (model prog w) A (call (.builtin "sorted") [x]) Q E s := by
  refine call_function_entry kind_sorted plain_sorted entry_sorted (args_sorted1 _) ?_
  unfold Builtin.«sorted»
  refine wpAny_bind (m := checkCount "sorted" 1 1 _) (wpAny_pure ?_)
  refine wpAny_bind (hc _ _ fun vs h' tk hkeep he => ?_)
  have hlen : vs.length = bs.length := he.length
  refine wpAny_bind (wpAny_newList ?_ (by rw [hlen]; exact hL))
  have hoL : (h'.push (seqObj "list" vs.toArray 0)).get? h'.objs.size = some (seqObj "list" vs.toArray 0) := Heap.get?_push_size _ rfl
  show wpAny _ _ _ _ _ { s with heap := h'.push (seqObj "list" vs.toArray 0), toks := tk }
  have keep2 : ∀ b o, h'.get? b = some o → (sortingHeap (h'.push (seqObj "list" vs.toArray 0)) h'.objs.size vs).get? b = some o := fun b o e =>
    sortingHeap_old (Nat.ne_of_lt (Heap.lt_size e)) (Heap.get?_push_of_some _ e)
  have er : EachIs (fun v d => ∃ as, Reads (sortingHeap (h'.push (seqObj "list" vs.toArray 0)) h'.objs.size vs) v (enc d) as) vs bs := he.mono fun v d ⟨_, as, r⟩ => ⟨as, PyProof.Rows.Reads.keeps keep2 r⟩
  refine wpAny_bind (wpAny_holding (wpAny_call_entry slot_list_sort ⟨_, hoL, rfl⟩ entry_list_sort
    (list_sort_vals (s := { s with heap := h'.push (seqObj "list" vs.toArray 0), toks := tk }) hoL
      (pw_sortsAt (s := { s with heap := sortingHeap (h'.push (seqObj "list" vs.toArray 0)) h'.objs.size vs, toks := tk }) (each_map (R := fun v d => ∃ as, Reads (sortingHeap (h'.push (seqObj "list" vs.toArray 0)) h'.objs.size vs) v d as) enc er) hal hk fun d hd => by obtain ⟨b, hb, rfl⟩ := List.mem_map.mp hd; have := hu b hb; show A.units + 1 + 1 + _ < _; omega) (by rw [hlen]; exact hL) ⟨_, rfl, ?_⟩)
    (args_list_sort _)))
  obtain ⟨c, hc'⟩ := PyProof.Rows.sortedHeap_at (vs := vs) (out := (sortVals (dataKind (sortingHeap (h'.push (seqObj "list" vs.toArray 0)) h'.objs.size vs) (bs.map enc)) false vs vs).toArray) hoL
  refine wpAny_pure ⟨_, rfl, h h'.objs.size h' _ tk _ c hkeep (Nat.le_refl _) (fun b o e1 => ?_) hc' ?_⟩
  · have hb : b < h'.objs.size := Heap.lt_size e1
    rw [PyProof.Rows.sortedHeap_old (Nat.ne_of_lt hb) (by rw [size_push']; exact Nat.lt_succ_of_lt hb)]
    exact Heap.get?_push_of_some _ e1
  · exact sortVals_data false (he.mono fun v d q => q.1) er hal
end
end PySem.W

set_option Elab.async false
set_option linter.all false
set_option maxRecDepth 100000
set_option maxHeartbeats 1000000
namespace PySem.W
open PySem PySem.SeqAt PySem.Calls PyProof.Rows
section
variable {prog : Program} {w : World} {A : Around} {E : Value → Shared → Prop} {s : Shared}
/-- min(a, b) of two alike data -/
theorem pw_min_two {a b : Value} {da db : PyData} {as : List Addr} {Q : Value → Shared → Prop} (hh : A.handled = none) (hr : ReadsAll s.heap [a, b] [da, db] as) (ha : AlikeAll [da, db]) (hu : A.units + 1 + PyData.depthAll [da, db] < cLine)
    (h : ∀ (i : Nat) v h' tk bs, [a, b][i]? = some v → Reads h' v (minD da [db]) bs → (∀ c o, s.heap.get? c = some o → h'.get? c = some o) → Q v { s with heap := h', toks := tk }) :
    wpAny (model prog w) A (call (.builtin "min") [a, b]) Q E s := by
  have hname : (toString "min" ++ toString ".loop" : String) = "min.loop" := by decide
  refine call_function_tree F.kind_min F.plain_min F.entry_min (F.args_min2 _ _) ?_
  show wpAny _ A.in1 (Builtin.Builtins.bindParams "min" ["key", "default"] 0 ⟨[], []⟩ >>= _) _ _ s
  refine wpAny_bind (wpAny_of_eq (show Builtin.Builtins.bindParams "min" ["key", "default"] 0 ⟨[], []⟩ = pure [none, none] from rfl) ?_)
  show wpAny _ A.in1 (newTuple [a, b] >>= _) _ _ s
  refine wpAny_bind (wpAny_newObj_type ?_)
  have hT : (s.heap.push { cls := .type "tuple", data := .seq #[a, b] }).IsTuple s.heap.objs.size #[a, b] := ⟨_, Heap.get?_push_size _ rfl, rfl, 0, rfl⟩
  have keep1 : ∀ c o, s.heap.get? c = some o → (s.heap.push { cls := .type "tuple", data := .seq #[a, b] }).get? c = some o := fun c o e => Heap.get?_push_of_some _ e
  have hr1 : ReadsAll (s.heap.push { cls := .type "tuple", data := .seq #[a, b] }) (#[a, b] : Array Value).toList [da, db] as := PyProof.Rows.ReadsAll.keeps keep1 hr
  generalize hs1 : ({ s with heap := s.heap.push { cls := .type "tuple", data := .seq #[a, b] } } : Shared) = s1
  have eh : s1.heap = s.heap.push { cls := .type "tuple", data := .seq #[a, b] } := by rw [← hs1]
  rw [← eh] at hT hr1 keep1
  refine wpAny_bind (iter_tupleW (A := A.in1) (s := s1) hh hT fun s₂ e W st hfp hw hk => ?_)
  refine wpAny_bind (wpAny_newObj_type ?_)
  have hSf : s₂.heap.objs.size ∉ [s1.heap.objs.size, s.heap.objs.size] := fun hm => Nat.lt_irrefl _ (hfp _ hm)
  rw [hname]
  refine wpAny_pure ⟨plainId_quiet F.plain_min_loop _, codeAny_min_loop_firstH W s1.heap hw _ (cmpIn_lt (A := A.in1) (s := s1) hr1 ha (by show A.units + 1 + _ < _; exact hu)) s₂.heap.objs.size hSf (fresh_in hk) _ (by show 0 < 2; omega) (fun b o e => Heap.get?_push_of_some _ (hk b o e)) (W.frame 0 s₂ _ s₂.toks st (Nat.le_refl _) fun b _ o e => Heap.get?_push_of_some _ e) (Heap.get?_push_size _ rfl) fun v s' hP hm => ?_⟩
  have m := Moved.drop_new (tk := s₂.toks) hm (Nat.le_refl _)
  obtain ⟨h', tk, rfl, hk'⟩ := moved_old e rfl m
  obtain ⟨bs, r, _, _, _⟩ := readsAll_atA hr1 _ v hP
  have e2 := (argBest_fold dataLt PyData.none da [db] 1 (Nat.le_refl _)).2
  have hP' : [a, b][argBest (fun i j => dataLt ([da, db].getD i .none) ([da, db].getD j .none)) 1]? = some v := by rw [← Array.getElem?_toList] at hP; exact hP
  have := h _ v h' tk bs hP' (reads_keeps hk' (by unfold minD; rw [show List.take 1 [db] = [db] from rfl] at e2; rw [← e2]; exact r)) (fun c o e => hk' c o (keep1 c o e))
  rw [← hs1]
  exact this
end
end PySem.W
namespace PW
open PySem PySem.Spec PyProof.Rows L2

/-! ### calls of what is built in -/
def CallV (X : Cx) (r : List V → Hp → VK → Prop) (w : List D → W D) : Prop := ∀ {z : Z} {H : Hp} {vs : List V} {ds : List D} {Q : VK}, Fct X.K H → ZOk X.K z H → RBs X.K X.mg z H vs ds → (w ds).run (kV X.K X.mg z H Q) → r vs H (fun v H' => Fct X.K H' → Q v H')
def CallF (X : Cx) (r : List V → Hp → VK → Prop) (w : List D → W D) : Prop := ∀ {z : Z} {H : Hp} {vs : List V} {ds : List D} {Q : VK}, Fct X.K H → ZOk X.K z H → RBs X.K X.mg z H vs ds → (w ds).run (kF X.K X.mg z H Q) → r vs H (fun v H' => Fct X.K H' → Q v H')
def CallE (M : Mo) (S : Fix) (f : Value) (w : List D → W D) : Prop := ∀ X (G : Good M S X), ∃ r, CallR X f r ∧ CallV X r w
def CallFE (M : Mo) (S : Fix) (f : Value) (w : List D → W D) : Prop := ∀ X (G : Good M S X), ∃ r, CallR X f r ∧ CallF X r w
theorem kF.step {K : PySem.W.Frag} {mg : Str → Option Value} {z z2 : Z} {H H2 : Hp} {Q : VK} {d : D} (st : Step K z H z2 H2) (k : kF K mg z H Q d) : kF K mg z2 H2 Q d := fun a o z' H' s2 fc hn hf hβ => k a o z' H' (st.trans s2) fc (st.was' (fun e => hβ (s2.le.β a e)) hn) hf hβ
section
variable {M : Mo} {S : Fix} {e : Expr} {es : List Expr} {fs : Env → W (List D)} {w : List D → W D} {id : String} {x : Str} {p pos : Pos}
theorem v_callB (hc : CallE M S (.builtin id) w) (ha : EvAB M S (e :: es) fs) (hf : decide (x ∈ M.free) = true := by kernel_rfl) (hv : bootBuiltins x = some (.builtin id) := by kernel_rfl) (hg : S.sc.names.lookup x = some .globalImplicit := by kernel_rfl)
    (hn : decide (x ≠ "__name__") = true := by kernel_rfl) (hd : (x == ("__debug__" : Str)) = false := by kernel_rfl) (he : ∀ env, starEach (e :: es) env = (false, eval e env) :: starEach es env := by intro _; kernel_rfl) (hpl : ∀ env, (backTo pos (starEach es env)).any (·.1) = false := by intro _; kernel_rfl) :
    EvV M S (.Call (.Name x p) (e :: es) [] pos) fun ρ => (fs ρ).bind w := fun X G => by
  obtain ⟨r, hr, hw⟩ := hc X G
  refine (pe_callB hr (gl_of G hg) (G.free _ (of_decide_eq_true hf)) hv (ha X G) (of_decide_eq_true hn) hd (he _) (hpl _)).impW fun σ H Q fc ⟨z0, H0, z, ρ, E, h⟩ => ⟨z0, H0, z, ρ, E, (fs ρ).mono (fun ds k vs z1 H1 st1 fc1 r1 => ?_) h⟩
  exact hw fc1 st1.ok r1 ((w ds).mono (fun d k => k.step st1) k)
theorem v_callT (hc : CallE M S (.type id) w) (ha : EvAB M S (e :: es) fs) (hf : decide (x ∈ M.free) = true := by kernel_rfl) (hv : bootBuiltins x = some (.type id) := by kernel_rfl) (hg : S.sc.names.lookup x = some .globalImplicit := by kernel_rfl)
    (hn : decide (x ≠ "__name__") = true := by kernel_rfl) (hd : (x == ("__debug__" : Str)) = false := by kernel_rfl) (he : ∀ env, starEach (e :: es) env = (false, eval e env) :: starEach es env := by intro _; kernel_rfl) (hpl : ∀ env, (backTo pos (starEach es env)).any (·.1) = false := by intro _; kernel_rfl) :
    EvV M S (.Call (.Name x p) (e :: es) [] pos) fun ρ => (fs ρ).bind w := fun X G => by
  obtain ⟨r, hr, hw⟩ := hc X G
  refine (pe_callTy hr (gl_of G hg) (G.free _ (of_decide_eq_true hf)) hv (ha X G) (of_decide_eq_true hn) hd (he _) (hpl _)).impW fun σ H Q fc ⟨z0, H0, z, ρ, E, h⟩ => ⟨z0, H0, z, ρ, E, (fs ρ).mono (fun ds k vs z1 H1 st1 fc1 r1 => ?_) h⟩
  exact hw fc1 st1.ok r1 ((w ds).mono (fun d k => k.step st1) k)
theorem f_callB (hc : CallFE M S (.builtin id) w) (ha : EvAB M S (e :: es) fs) (hf : decide (x ∈ M.free) = true := by kernel_rfl) (hv : bootBuiltins x = some (.builtin id) := by kernel_rfl) (hg : S.sc.names.lookup x = some .globalImplicit := by kernel_rfl)
    (hn : decide (x ≠ "__name__") = true := by kernel_rfl) (hd : (x == ("__debug__" : Str)) = false := by kernel_rfl) (he : ∀ env, starEach (e :: es) env = (false, eval e env) :: starEach es env := by intro _; kernel_rfl) (hpl : ∀ env, (backTo pos (starEach es env)).any (·.1) = false := by intro _; kernel_rfl) :
    EvF M S (.Call (.Name x p) (e :: es) [] pos) fun ρ => (fs ρ).bind w := fun X G => by
  obtain ⟨r, hr, hw⟩ := hc X G
  refine (pe_callB hr (gl_of G hg) (G.free _ (of_decide_eq_true hf)) hv (ha X G) (of_decide_eq_true hn) hd (he _) (hpl _)).impW fun σ H Q fc ⟨z0, H0, z, ρ, E, h⟩ => ⟨z0, H0, z, ρ, E, (fs ρ).mono (fun ds k vs z1 H1 st1 fc1 r1 => ?_) h⟩
  exact hw fc1 st1.ok r1 ((w ds).mono (fun d k => k.step st1) k)
theorem f_callT (hc : CallFE M S (.type id) w) (ha : EvAB M S (e :: es) fs) (hf : decide (x ∈ M.free) = true := by kernel_rfl) (hv : bootBuiltins x = some (.type id) := by kernel_rfl) (hg : S.sc.names.lookup x = some .globalImplicit := by kernel_rfl)
    (hn : decide (x ≠ "__name__") = true := by kernel_rfl) (hd : (x == ("__debug__" : Str)) = false := by kernel_rfl) (he : ∀ env, starEach (e :: es) env = (false, eval e env) :: starEach es env := by intro _; kernel_rfl) (hpl : ∀ env, (backTo pos (starEach es env)).any (·.1) = false := by intro _; kernel_rfl) :
    EvF M S (.Call (.Name x p) (e :: es) [] pos) fun ρ => (fs ρ).bind w := fun X G => by
  obtain ⟨r, hr, hw⟩ := hc X G
  refine (pe_callTy hr (gl_of G hg) (G.free _ (of_decide_eq_true hf)) hv (ha X G) (of_decide_eq_true hn) hd (he _) (hpl _)).impW fun σ H Q fc ⟨z0, H0, z, ρ, E, h⟩ => ⟨z0, H0, z, ρ, E, (fs ρ).mono (fun ds k vs z1 H1 st1 fc1 r1 => ?_) h⟩
  exact hw fc1 st1.ok r1 ((w ds).mono (fun d k => k.step st1) k)

/-! ### len, abs, min, max, sum, any, all, int, isinstance -/
def D.len : List D → W D
  | [.lst xs] => W.pure (.int xs.length)
  | [.tup xs] => W.pure (.int xs.length)
  | [.dK xs] => W.pure (.int xs.length)
  | [.dT xs] => W.pure (.int xs.length)
  | [.str x] => (W.need (x.length ≤ sizeLine)).bind fun _ => W.pure (.int x.length)
  | _ => W.fail
theorem RpK.length {K : PySem.W.Frag} {mg : Str → Option Value} {z : Z} : ∀ {v : List (Key × V)} {d : List (Key × D)}, RpK K mg z v d → v.length = d.length
  | _, _, .nil => rfl
  | _, _, .cons _ r => by rw [List.length_cons, List.length_cons, RpK.length r]
theorem RpT.length {K : PySem.W.Frag} {mg : Str → Option Value} {z : Z} : ∀ {v : List (List Key × V)} {d : List (List Key × D)}, RpT K mg z v d → v.length = d.length
  | _, _, .nil => rfl
  | _, _, .cons _ r => by rw [List.length_cons, List.length_cons, RpT.length r]
theorem c_len : CallE M S (.builtin "len") D.len := fun X G => by
  refine ⟨_, (call_len_seq.or call_len_str).or (call_lenD.or call_len_dT), fun {z H vs ds Q} fc ok rs h => ?_⟩
  unfold D.len at h
  split at h
  · obtain ⟨v, rfl, r⟩ := rs.one
    obtain ⟨a, vs, rfl, q, r⟩ := r.lst ok
    exact .inl (.inl ⟨a, vs, rfl, .inl (.of q), fun _ => by rw [r.length]; exact h.now ok fc (.int _)⟩)
  · obtain ⟨v, rfl, r⟩ := rs.one
    obtain ⟨a, vs, rfl, q, r⟩ := r.tup ok
    exact .inl (.inl ⟨a, vs, rfl, .inr (.of q), fun _ => by rw [r.length]; exact h.now ok fc (.int _)⟩)
  · obtain ⟨v, rfl, r⟩ := rs.one
    obtain ⟨a, kvs, rfl, q, r⟩ := r.dK ok
    exact .inr (.inl ⟨a, kvs, rfl, q, fun _ => by rw [r.length]; exact h.now ok fc (.int _)⟩)
  · obtain ⟨v, rfl, r⟩ := rs.one
    obtain ⟨a, kvs, rfl, q, r⟩ := r.dT ok
    exact .inr (.inr ⟨a, kvs, rfl, q, fun _ => by rw [r.length]; exact h.now ok fc (.int _)⟩)
  · obtain ⟨v, rfl, r⟩ := rs.one
    rw [r.str]
    exact .inl (.inr ⟨_, rfl, h.1, fun _ => h.2.now ok fc (.int _)⟩)
  · exact (show False from h).elim
def D.abs : List D → W D
  | [.int i] => W.pure (.int (if i < 0 then -i else i))
  | _ => W.fail
theorem c_abs : CallE M S (.builtin "abs") D.abs := fun X G => by
  refine ⟨_, call_abs, fun {z H vs ds Q} fc ok rs h => ?_⟩
  unfold D.abs at h
  split at h
  · obtain ⟨v, rfl, r⟩ := rs.one
    exact ⟨_, by rw [r.int], fun _ => h.now ok fc (.int _)⟩
  · exact (show False from h).elim
def D.int1 : List D → W D
  | [.int i] => W.pure (.int i)
  | [.bl b] => W.pure (.int (if b then 1 else 0))
  | _ => W.fail
theorem c_int : CallE M S (.type "int") D.int1 := fun X G => by
  refine ⟨_, call_int1, fun {z H vs ds Q} fc ok rs h => ?_⟩
  unfold D.int1 at h
  split at h
  · obtain ⟨v, rfl, r⟩ := rs.one
    exact .inl ⟨_, by rw [r.int], fun _ => h.now ok fc (.int _)⟩
  · obtain ⟨v, rfl, r⟩ := rs.one
    exact .inr ⟨_, by rw [r.bl], fun _ => h.now ok fc (.int _)⟩
  · exact (show False from h).elim
/-- range(j), range(i, j) as a value -/
def D.range : List D → W D
  | [.int j] => W.pure (.rng 0 j)
  | [.int i, .int j] => W.pure (.rng i j)
  | _ => W.fail
theorem call_range1 {X : Cx} : CallR X (.type "range") (fun vs H Q => ∃ j, vs = [V.int j] ∧ ∀ p, H p = none → Q (.ref p) (upd H p (.rng 0 j))) := by
  intro pins s σ H vs us Q I r h
  obtain ⟨j, rfl, q⟩ := h
  obtain ⟨u, rfl, t, rfl⟩ := vals1 r
  refine call_range_1 ⟨.ref s.heap.objs.size, upd H s.heap.objs.size (.rng 0 j), I.laid (t' := s.toks + 2) (fun b o e => Heap.get?_push_of_some _ e) (Nat.le_refl _) ?_, rfl, q _ (I.hok.fresh (Nat.le_refl _))⟩
  exact ⟨_, _, _, Heap.get?_push_size _ rfl⟩
theorem c_range : CallE M S (.type "range") D.range := fun X G => by
  refine ⟨_, call_range1.or cr_range2, fun {z H vs ds Q} fc ok rs h => ?_⟩
  unfold D.range at h
  split at h
  · obtain ⟨v, rfl, r⟩ := rs.one
    exact .inl ⟨_, by rw [r.int], fun p hp fc2 => kV_new h (Step.refl ok) fc2 hp (.rng Z.put_at)⟩
  · obtain ⟨v, u, rfl, r, r'⟩ := rs.two
    exact .inr ⟨_, _, by rw [r.int, r'.int], fun p hp fc2 => kV_new h (Step.refl ok) fc2 hp (.rng Z.put_at)⟩
  · exact (show False from h).elim
def D.ints : List D → Option (List Int)
  | [] => some []
  | .int i :: ds => (D.ints ds).map (i :: ·)
  | _ => none
theorem ints_eq {K : PySem.W.Frag} {mg : Str → Option Value} {z : Z} : ∀ {ds : List D} {vs : List V} {ns : List Int}, RpL K mg z vs ds → D.ints ds = some ns → vs = ns.map V.int
  | [], _, _, r, e => by cases r; cases e; rfl
  | .int i :: ds, _, _, r, e => by
    cases r with
    | cons r1 r2 =>
      cases r1
      cases q : D.ints ds with
      | none => rw [D.ints, q] at e; cases e
      | some ns => rw [D.ints, q] at e; cases e; rw [ints_eq r2 q]; rfl
  | .non :: _, _, _, _, e => by cases e
  | .bl _ :: _, _, _, _, e => by cases e
  | .str _ :: _, _, _, _, e => by cases e
  | .ty _ :: _, _, _, _, e => by cases e
  | .tup _ :: _, _, _, _, e => by cases e
  | .lst _ :: _, _, _, _, e => by cases e
  | .dK _ :: _, _, _, _, e => by cases e
  | .dT _ :: _, _, _, _, e => by cases e
  | .rng _ _ :: _, _, _, _, e => by cases e
  | .fn _ :: _, _, _, _, e => by cases e
  | .bag :: _, _, _, _, e => by cases e
  | .scr :: _, _, _, _, e => by cases e
theorem some_run {α : Type} {o : Option α} {Q : α → Prop} (h : (W.some? o).run Q) : ∃ a, o = some a ∧ Q a := by
  cases o with
  | none => exact (show False from h).elim
  | some a => exact ⟨a, rfl, h⟩
def D.sum : List D → W D
  | [.lst xs] => (W.some? (D.ints xs)).bind fun ns => W.pure (.int ns.sum)
  | [.tup xs] => (W.some? (D.ints xs)).bind fun ns => W.pure (.int ns.sum)
  | _ => W.fail
theorem cr_sumT {X : Cx} (hc : X.calm = true) : CallR X (.builtin "sum") (fun vs H Q => ∃ (a : Addr) (ns : List Int), vs = [V.ref a] ∧ SqT X.K H a (ns.map V.int) ∧ Q (.int ns.sum) H) := by
  intro pins s σ H vs us Q I r h
  obtain ⟨a, ns, rfl, hs, q⟩ := h
  obtain ⟨its, rv, hl, _⟩ := I.tuple hs
  rw [Vals.ref1 r]
  have hi := rv.ints
  obtain ⟨xs, e⟩ := hi.allInts.items
  have hn : numsOf (intItems xs).toList = ns := by rw [← e]; exact hi.numsOf
  rw [nums_intItems] at hn
  have hl : s.heap.IsTuple a its.toArray := hl
  rw [e] at hl
  refine PySem.W.ktm_sumG (I.ok.hd hc) hl fun h' tk t' hk => ?_
  rw [preSum_eq, List.take_of_length_le (by simp), hn]
  exact ⟨.int _, H, I.kept hk, ⟨_, rfl⟩, q⟩
theorem c_sum : CallE M S (.builtin "sum") D.sum := fun X G => by
  refine ⟨_, (cr_sum G.calm).or (cr_sumT G.calm), fun {z H vs ds Q} fc ok rs h => ?_⟩
  unfold D.sum at h
  split at h
  · obtain ⟨v, rfl, r⟩ := rs.one
    obtain ⟨a, vs, rfl, q, r⟩ := r.lst ok
    obtain ⟨ns, e, h⟩ := some_run h
    exact .inl ⟨a, ns, rfl, .of (by rw [← ints_eq r e]; exact q), fun _ => h.now ok fc (.int _)⟩
  · obtain ⟨v, rfl, r⟩ := rs.one
    obtain ⟨a, vs, rfl, q, r⟩ := r.tup ok
    obtain ⟨ns, e, h⟩ := some_run h
    exact .inr ⟨a, ns, rfl, .of (by rw [← ints_eq r e]; exact q), fun _ => h.now ok fc (.int _)⟩
  · exact (show False from h).elim
def D.bls : List D → Option (List Bool)
  | [] => some []
  | .bl i :: ds => (D.bls ds).map (i :: ·)
  | _ => none
theorem bls_eq {K : PySem.W.Frag} {mg : Str → Option Value} {z : Z} : ∀ {ds : List D} {vs : List V} {ns : List Bool}, RpL K mg z vs ds → D.bls ds = some ns → vs = ns.map V.bl
  | [], _, _, r, e => by cases r; cases e; rfl
  | .bl i :: ds, _, _, r, e => by
    cases r with
    | cons r1 r2 =>
      cases r1
      cases q : D.bls ds with
      | none => rw [D.bls, q] at e; cases e
      | some ns => rw [D.bls, q] at e; cases e; rw [bls_eq r2 q]; rfl
  | .non :: _, _, _, _, e => by cases e
  | .int _ :: _, _, _, _, e => by cases e
  | .str _ :: _, _, _, _, e => by cases e
  | .ty _ :: _, _, _, _, e => by cases e
  | .tup _ :: _, _, _, _, e => by cases e
  | .lst _ :: _, _, _, _, e => by cases e
  | .dK _ :: _, _, _, _, e => by cases e
  | .dT _ :: _, _, _, _, e => by cases e
  | .rng _ _ :: _, _, _, _, e => by cases e
  | .fn _ :: _, _, _, _, e => by cases e
  | .bag :: _, _, _, _, e => by cases e
  | .scr :: _, _, _, _, e => by cases e
def D.any : List D → W D
  | [.lst xs] => (W.some? (D.bls xs)).bind fun ns => W.pure (.bl (ns.any _root_.id))
  | _ => W.fail
def D.all : List D → W D
  | [.lst xs] => (W.some? (D.bls xs)).bind fun ns => W.pure (.bl (ns.all _root_.id))
  | _ => W.fail
theorem c_any : CallE M S (.builtin "any") D.any := fun X G => by
  refine ⟨_, cr_any G.calm, fun {z H vs ds Q} fc ok rs h => ?_⟩
  unfold D.any at h
  split at h
  · obtain ⟨v, rfl, r⟩ := rs.one
    obtain ⟨a, vs, rfl, q, r⟩ := r.lst ok
    obtain ⟨ns, e, h⟩ := some_run h
    exact ⟨a, ns, rfl, .of (by rw [← bls_eq r e]; exact q), fun _ => h.now ok fc (.bl _)⟩
  · exact (show False from h).elim
theorem c_all : CallE M S (.builtin "all") D.all := fun X G => by
  refine ⟨_, cr_all G.calm, fun {z H vs ds Q} fc ok rs h => ?_⟩
  unfold D.all at h
  split at h
  · obtain ⟨v, rfl, r⟩ := rs.one
    obtain ⟨a, vs, rfl, q, r⟩ := r.lst ok
    obtain ⟨ns, e, h⟩ := some_run h
    exact ⟨a, ns, rfl, .of (by rw [← bls_eq r e]; exact q), fun _ => h.now ok fc (.bl _)⟩
  · exact (show False from h).elim

/-! isinstance -/
def D.tyn : D → Option String
  | .non => some "NoneType"
  | .bl _ => some "bool"
  | .int _ => some "int"
  | .str _ => some "str"
  | .tup _ => some "tuple"
  | .lst _ => some "list"
  | .dK _ => some "dict"
  | .dT _ => some "dict"
  | _ => none
def tyNames : List String := ["NoneType", "bool", "int", "str", "tuple", "list", "dict"]
def isaB (a b : String) : Option Bool := if tyNames.contains a && tyNames.contains b then some (a == b || (a == "bool" && b == "int")) else none
theorem isaB_all : (tyNames.all fun a => tyNames.all fun b => kitB a b == some (a == b || (a == "bool" && b == "int"))) = true := by decide +kernel
theorem isaB_kit {a b : String} {r : Bool} (h : isaB a b = some r) : kitB a b = some r := by
  unfold isaB at h
  by_cases c : (tyNames.contains a && tyNames.contains b) = true
  · rw [if_pos c] at h
    rw [Bool.and_eq_true] at c
    have e := List.all_eq_true.mp (List.all_eq_true.mp isaB_all a (List.contains_iff_mem.mp c.1)) b (List.contains_iff_mem.mp c.2)
    rw [← h]
    exact eq_of_beq e
  · rw [if_neg c] at h
    cases h
theorem RB.tyX {K : PySem.W.Frag} {mg : Str → Option Value} {z : Z} {H : Hp} {v : V} {d : D} {n : String} (ok : ZOk K z H) (r : RB K mg z H v d) (e : d.tyn = some n) : TyX K H v (.type n) := by
  cases d with
  | non => cases e; rw [r.non]; exact .base .non
  | bl b => cases e; rw [r.bl]; exact .base (.bl _)
  | int b => cases e; rw [r.int]; exact .base (.int _)
  | str b => cases e; rw [r.str]; exact .base (.str _)
  | tup b => cases e; obtain ⟨a, vs, rfl, q, _⟩ := r.tup ok; exact .base (.tup q)
  | lst b => cases e; obtain ⟨a, vs, rfl, q, _⟩ := r.lst ok; exact .base (.lst q)
  | dK b => cases e; obtain ⟨a, kvs, rfl, q, _⟩ := r.dK ok; exact .base (.dK q)
  | dT b => cases e; obtain ⟨a, kvs, rfl, q, _⟩ := r.dT ok; exact .base (.dT q)
  | _ => cases e
def isaAny (a : String) : List D → Option Bool
  | [] => some false
  | .ty b :: ds => match isaB a b, isaAny a ds with
    | some r, some r' => some (r || r')
    | _, _ => none
  | _ => none
def D.isi : List D → W D
  | [d, .ty b] => (W.some? d.tyn).bind fun a => (W.some? (isaB a b)).bind fun r => W.pure (.bl r)
  | [d, .tup ts] => (W.some? d.tyn).bind fun a => (W.some? (isaAny a ts)).bind fun r => W.pure (.bl r)
  | _ => W.fail
theorem isaAny_kit {K : PySem.W.Frag} {mg : Str → Option Value} {z : Z} {a : String} : ∀ {ts : List D} {vs : List V} {r : Bool}, RpL K mg z vs ts → isaAny a ts = some r → ∃ us, Paired ClsV vs us ∧ (PySem.W.kitAny K (.type a) us = some r)
  | [], _, _, h, e => by cases h; cases e; exact ⟨[], .nil, kitAny_nil⟩
  | .ty b :: ts, _, r, h, e => by
    cases h with
    | cons h1 h2 =>
      cases h1
      unfold isaAny at e
      cases q : isaB a b with
      | none => rw [q] at e; cases e
      | some c =>
        cases q2 : isaAny a ts with
        | none => rw [q, q2] at e; cases e
        | some c2 =>
          rw [q, q2] at e
          cases e
          obtain ⟨us, h3, h4⟩ := isaAny_kit h2 q2
          refine ⟨_, .cons (.ty b) h3, kitAny_cons (kit_ty (isaB_kit q)) (fun x => ?_) fun x => ?_⟩
          · rw [x, Bool.false_or]; exact h4
          · rw [x, Bool.true_or]
  | .non :: _, _, _, _, e => by cases e
  | .int _ :: _, _, _, _, e => by cases e
  | .str _ :: _, _, _, _, e => by cases e
  | .bl _ :: _, _, _, _, e => by cases e
  | .tup _ :: _, _, _, _, e => by cases e
  | .lst _ :: _, _, _, _, e => by cases e
  | .dK _ :: _, _, _, _, e => by cases e
  | .dT _ :: _, _, _, _, e => by cases e
  | .rng _ _ :: _, _, _, _, e => by cases e
  | .fn _ :: _, _, _, _, e => by cases e
  | .bag :: _, _, _, _, e => by cases e
  | .scr :: _, _, _, _, e => by cases e
theorem c_isi : CallE M S (.builtin "isinstance") D.isi := fun X G => by
  refine ⟨_, call_isi.or call_isiT, fun {z H vs ds Q} fc ok rs h => ?_⟩
  unfold D.isi at h
  split at h
  · obtain ⟨v, u, rfl, r, r'⟩ := rs.two
    obtain ⟨a, e, h⟩ := some_run h
    obtain ⟨b, e2, h⟩ := some_run h
    exact .inl ⟨v, u, _, _, b, rfl, by rw [r'.ty]; exact .ty _, r.tyX ok e, kit_ty (isaB_kit e2), fun _ => h.now ok fc (.bl _)⟩
  · obtain ⟨v, u, rfl, r, r'⟩ := rs.two
    obtain ⟨a, e, h⟩ := some_run h
    obtain ⟨b, e2, h⟩ := some_run h
    obtain ⟨tp, ts, rfl, q, rt⟩ := r'.tup ok
    obtain ⟨us, h1, h2⟩ := isaAny_kit rt e2
    exact .inr ⟨v, tp, ts, _, us, b, rfl, q, h1, r.tyX ok e, h2, fun _ => h.now ok fc (.bl _)⟩
  · exact (show False from h).elim

/-! ### list(x), tuple(x), sorted(x) -/
/-- a tuple that stands is known from now on -/
theorem Step.freezeT {K : PySem.W.Frag} {z : Z} {H : Hp} {p : Addr} {vs : List V} (h : ZOk K z H) (ho : H p = some (.tup vs)) : ∃ z', Step K z H z' H ∧ z'.f p = some (.tup vs) := by
  cases q : z.f p with
  | some o =>
    have e := h.sub _ _ q
    rw [ho] at e
    exact ⟨z, Step.refl h, by rw [q, e]⟩
  | none =>
    have hβ : ¬ z.β p := fun e => by
      rcases e with ⟨_, e⟩ | ⟨_, e⟩
      · obtain ⟨_, _, _, _, _, q, _⟩ := h.bag.bag e
        rw [ho] at q
        cases q
      · obtain ⟨_, q, _⟩ := h.bag.tab e
        rw [ho] at q
        cases q
    refine ⟨z.put p (.tup vs), ⟨Z.le_put q, h.freeze q hβ ho trivial, fun _ _ _ h _ => h, fun b o h1 h2 h3 => ?_, fun _ h => .inl h⟩, Z.put_at⟩
    show upd z.f p _ b = none
    rw [upd_ne (fun e => by rw [e, ho] at h2; cases h2; exact h3)]
    exact h1
theorem rp_key {K : PySem.W.Frag} {mg : Str → Option Value} {z : Z} (k : Key) : Rp K mg z (L2.kV k) (keyD k) := by
  cases k with
  | inl i => exact .int i
  | inr x => exact .str x
theorem rpL_keys {K : PySem.W.Frag} {mg : Str → Option Value} {z : Z} : ∀ ks : List Key, RpL K mg z (ks.map L2.kV) (ks.map keyD)
  | [] => .nil
  | k :: ks => .cons (rp_key k) (rpL_keys ks)
theorem freeze_keys {K : PySem.W.Frag} {mg : Str → Option Value} {H : Hp} : ∀ {kvs : List (List Key × V)} {bs : List Addr} {z : Z}, ZOk K z H → IsKeys H kvs bs → ∃ z', Step K z H z' H ∧ RpL K mg z' (bs.map V.ref) (kvs.map fun kv => .tup (kv.1.map keyD))
  | _, _, z, ok, .nil => ⟨z, Step.refl ok, .nil⟩
  | _, _, z, ok, .cons h t => by
    obtain ⟨z1, s1, e1⟩ := Step.freezeT ok h
    obtain ⟨z2, s2, r2⟩ := freeze_keys (mg := mg) s1.ok t
    exact ⟨z2, s1.trans s2, .cons (.tup (s2.le.f _ _ e1) (rpL_keys _)) r2⟩
/-- the keys of a dict -/
theorem RpK.keys {K : PySem.W.Frag} {mg : Str → Option Value} {z : Z} : ∀ {v : List (Key × V)} {d : List (Key × D)}, RpK K mg z v d → (d.map fun kv => keyD kv.1) = v.map fun kv => keyD kv.1
  | _, _, .nil => rfl
  | _, _, .cons _ r => by rw [List.map_cons, List.map_cons, RpK.keys r]
theorem RpT.keys {K : PySem.W.Frag} {mg : Str → Option Value} {z : Z} : ∀ {v : List (List Key × V)} {d : List (List Key × D)}, RpT K mg z v d → (d.map fun kv => D.tup (kv.1.map keyD)) = v.map fun kv => D.tup (kv.1.map keyD)
  | _, _, .nil => rfl
  | _, _, .cons _ r => by rw [List.map_cons, List.map_cons, RpT.keys r]
/-- what x gives, walked -/
def D.walk : D → W (List D)
  | .tup xs => W.pure xs
  | .lst xs => W.pure xs
  | .dK kvs => W.pure (kvs.map fun kv => keyD kv.1)
  | .dT kvs => W.pure (kvs.map fun kv => .tup (kv.1.map keyD))
  | .rng lo hi => (W.need (RgOk lo hi)).bind fun _ => W.pure (rngD lo hi)
  | _ => W.fail
theorem rngD_rp {K : PySem.W.Frag} {mg : Str → Option Value} {z : Z} (lo hi : Int) : RpL K mg z (rgV lo hi) (rngD lo hi) := by
  unfold rgV rngD
  generalize List.range (hi - lo).toNat = l
  induction l with
  | nil => exact .nil
  | cons n l ih => exact .cons (.int _) ih
inductive Src (K : PySem.W.Frag) (mg : Str → Option Value) (z : Z) (H : Hp) (a : Addr) : List D → Prop
  | seq {xs : List V} {ds : List D} : (SqL K H a xs ∨ SqT K H a xs) → RpL K mg z xs ds → Src K mg z H a ds
  | dK {kvs : List (Key × V)} {ds : List D} : H a = some (.dK kvs) → ds = (kvs.map fun kv => keyD kv.1) → Src K mg z H a ds
  | dT {kvs : List (List Key × V)} {ds : List D} : H a = some (.dT kvs) → ds = (kvs.map fun kv => .tup (kv.1.map keyD)) → Src K mg z H a ds
  | rng {lo hi : Int} {ds : List D} : H a = some (.rng lo hi) → RgOk lo hi → ds = rngD lo hi → Src K mg z H a ds
theorem src_run {K : PySem.W.Frag} {mg : Str → Option Value} {z : Z} {H : Hp} {v : V} {d : D} {Q : List D → Prop} (ok : ZOk K z H) (r : RB K mg z H v d) (h : d.walk.run Q) : ∃ a ds, v = .ref a ∧ Src K mg z H a ds ∧ Q ds := by
  cases d with
  | tup ds =>
    obtain ⟨a, vs, rfl, q, r⟩ := r.tup ok
    exact ⟨a, ds, rfl, .seq (.inr (.of q)) r, h⟩
  | lst ds =>
    obtain ⟨a, vs, rfl, q, r⟩ := r.lst ok
    exact ⟨a, ds, rfl, .seq (.inl (.of q)) r, h⟩
  | dK ds =>
    obtain ⟨a, kvs, rfl, q, r⟩ := r.dK ok
    exact ⟨a, _, rfl, .dK q r.keys, h⟩
  | dT ds =>
    obtain ⟨a, kvs, rfl, q, r⟩ := r.dT ok
    exact ⟨a, _, rfl, .dT q r.keys, h⟩
  | rng lo hi =>
    obtain ⟨a, rfl, q⟩ := r.rng ok
    exact ⟨a, _, rfl, .rng q h.1 rfl, h.2⟩
  | _ => exact (show False from h).elim
/-- list(x): a new list -/
def rListX (K : PySem.W.Frag) (mg : Str → Option Value) : List V → Hp → VK → Prop := fun vs H Q => ∃ z a ds, ZOk K z H ∧ vs = [V.ref a] ∧ Src K mg z H a ds ∧ ∀ z' ys p, Step K z H z' H → RpL K mg z' ys ds → H p = none → Q (.ref p) (upd H p (.lst ys))
def rTupleX (K : PySem.W.Frag) (mg : Str → Option Value) : List V → Hp → VK → Prop := fun vs H Q => ∃ z a ds, ZOk K z H ∧ vs = [V.ref a] ∧ Src K mg z H a ds ∧ (∀ xs, SqT K H a xs → RpL K mg z xs ds → Q (.ref a) H) ∧ ∀ z' ys p, Step K z H z' H → RpL K mg z' ys ds → H p = none → Q (.ref p) (upd H p (.tup ys))
theorem cr_listX {X : Cx} (hc : X.calm = true) : CallR X (.type "list") (rListX X.K X.mg) := by
  intro pins s σ H vs us Q I r ⟨z, a, ds, ok, e, src, k⟩
  cases src with
  | seq hs rl => exact call_list_of pins s σ H vs us Q I r ⟨a, _, e, hs, fun l hl => k z _ l (Step.refl ok) rl hl⟩
  | @dK kvs ds q e2 =>
    refine call_list_dK hc pins s σ H vs us Q I r ⟨a, _, e, q, fun l hl => k z _ l (Step.refl ok) ?_ hl⟩
    rw [e2]
    have e3 := rpL_keys (K := X.K) (mg := X.mg) (z := z) (List.map (fun kv => kv.1) kvs)
    rw [List.map_map, List.map_map] at e3
    exact e3
  | dT q e2 =>
    refine call_list_dT hc pins s σ H vs us Q I r ⟨a, _, e, .inl q, fun l bs hl hk => ?_⟩
    obtain ⟨z', s', r'⟩ := freeze_keys (mg := X.mg) ok hk
    exact k z' _ l s' (by rw [e2]; exact r') hl
  | rng q ro e2 =>
    subst e
    rw [Vals.ref1 r]
    obtain ⟨b1, b2, b3, b4, b5⟩ := ro
    obtain ⟨t, u, v, hr⟩ := (show ObjOk X.prog X.w H s.heap a (.rng _ _) from I.hok a _ q)
    refine call_list_range (I.ok.hd hc) hr (small_one b1 b2 b3 b4) (rangeSize_nat _ _) b5 fun h' tk acc c' hk e' hi => ?_
    refine ⟨.ref s.heap.objs.size, _, I.laid hk (Nat.le_refl _) (show ObjOk X.prog X.w _ _ _ (.lst (rgV _ _)) from ⟨?_, acc.toList, c', vals_rg hi, ?_⟩), rfl, k z _ _ (Step.refl ok) (by rw [e2]; exact rngD_rp _ _) (I.hok.fresh (Nat.le_refl _))⟩
    · rw [rgV_length, sizeLine_eq]; omega
    · rw [Array.toArray_toList]; exact e'
theorem cr_tupleX {X : Cx} (hc : X.calm = true) : CallR X (.type "tuple") (fun vs H Q => ∃ z a ds, ZOk X.K z H ∧ vs = [V.ref a] ∧ ((∃ xs, SqL X.K H a xs ∧ RpL X.K X.mg z xs ds) ∨ ∃ lo hi, H a = some (.rng lo hi) ∧ RgOk lo hi ∧ ds = rngD lo hi) ∧
    ∀ ys p, RpL X.K X.mg z ys ds → H p = none → Q (.ref p) (upd H p (.tup ys))) := by
  intro pins s σ H vs us Q I r ⟨z, a, ds, ok, e, src, k⟩
  rcases src with ⟨xs, hs, rl⟩ | ⟨lo, hi, q, ro, e2⟩
  · exact call_tuple_of pins s σ H vs us Q I r ⟨a, _, e, .inl ⟨hs, fun l hl => k _ l rl hl⟩⟩
  · subst e
    rw [Vals.ref1 r]
    obtain ⟨b1, b2, b3, b4, b5⟩ := ro
    obtain ⟨t, u, v, hr⟩ := (show ObjOk X.prog X.w H s.heap a (.rng lo hi) from I.hok a _ q)
    refine call_tuple_range (I.ok.hd hc) hr (small_one b1 b2 b3 b4) (rangeSize_nat _ _) b5 fun h' tk acc hk hi => ?_
    have I2 : Inv X pins σ H { s with heap := h', toks := tk } := I.kept hk
    refine ⟨.ref h'.objs.size, _, I2.laid (t' := tk) (fun c o e => Heap.get?_push_of_some _ e) (Nat.le_refl _) (show ObjOk X.prog X.w _ _ _ (.tup (rgV _ _)) from ⟨?_, acc.toList, vals_rg hi, ?_⟩), rfl, k _ _ (by rw [e2]; exact rngD_rp _ _) (I2.hok.fresh (Nat.le_refl _))⟩
    · rw [rgV_length, sizeLine_eq]; omega
    · rw [Array.toArray_toList]; exact IsTup.new _ _
def D.list : List D → W D
  | [d] => d.walk.bind fun ds => W.pure (.lst ds)
  | _ => W.fail
theorem kF_new {K : PySem.W.Frag} {mg : Str → Option Value} {z z' : Z} {H H' : Hp} {Q : VK} {d : D} {p : Addr} {o : HO} (k : kF K mg z H Q d) (st : Step K z H z' H') (fc : Fct K (upd H' p o)) (hp : H' p = none) (r : Cont K mg z' o d) : Q (.ref p) (upd H' p o) :=
  k p o z' (upd H' p o) (st.trans (Step.fresh st.ok hp)) fc (st.was hp) (st.ok.free hp) (st.ok.nβ hp) upd_same r
theorem one_run {ds : List D} {f : D → W D} {Q : D → Prop} {w : List D → W D} (hw : ∀ ds, w ds = match ds with
    | [d] => f d
    | _ => W.fail) (h : (w ds).run Q) : ∃ d, ds = [d] ∧ (f d).run Q := by
  rw [hw] at h
  split at h
  · exact ⟨_, rfl, h⟩
  · exact (show False from h).elim
theorem c_list : CallFE M S (.type "list") D.list := fun X G => by
  refine ⟨_, cr_listX G.calm, fun {z H vs ds Q} fc ok rs h => ?_⟩
  obtain ⟨d, rfl, h⟩ := one_run (fun ds => by cases ds with
    | nil => rfl
    | cons d t => cases t <;> rfl) h
  obtain ⟨v, rfl, r⟩ := rs.one
  obtain ⟨a, ds, rfl, src, h⟩ := src_run ok r h
  exact ⟨z, a, ds, ok, rfl, src, fun z' ys p st r hp fc2 => kF_new h st fc2 hp (.lst r)⟩
def D.tuple : List D → W D
  | [.tup xs] => W.pure (.tup xs)
  | [.lst xs] => W.pure (.tup xs)
  | [.rng lo hi] => (W.need (RgOk lo hi)).bind fun _ => W.pure (.tup (rngD lo hi))
  | _ => W.fail
theorem c_tuple : CallE M S (.type "tuple") D.tuple := fun X G => by
  refine ⟨_, (call_tupleT (X := X)).or (cr_tupleX G.calm), fun {z H vs ds Q} fc ok rs h => ?_⟩
  unfold D.tuple at h
  split at h
  · obtain ⟨v, rfl, r⟩ := rs.one
    obtain ⟨a, vs, rfl, q, r'⟩ := r.tup ok
    refine .inl ⟨a, vs, rfl, .of q, fun _ => ?_⟩
    rcases r with r | ⟨_, _, _, _, _, c⟩
    · exact h.now ok fc r
    · cases c
  · obtain ⟨v, rfl, r⟩ := rs.one
    obtain ⟨a, vs, rfl, q, r⟩ := r.lst ok
    exact .inr ⟨z, a, _, ok, rfl, .inl ⟨vs, .of q, r⟩, fun ys p r hp fc2 => kV_new h (Step.refl ok) fc2 hp (.tup Z.put_at (r.le (Z.le_put (ok.free hp))))⟩
  · obtain ⟨v, rfl, r⟩ := rs.one
    obtain ⟨a, rfl, q⟩ := r.rng ok
    exact .inr ⟨z, a, _, ok, rfl, .inr ⟨_, _, q, h.1, rfl⟩, fun ys p r hp fc2 => kV_new h.2 (Step.refl ok) fc2 hp (.tup Z.put_at (r.le (Z.le_put (ok.free hp))))⟩
  · exact (show False from h).elim

/-! sorted -/
def pyD (d : D) : PyData := d.py.getD .none
def sortL (ds : List D) : List D := ds.mergeSort (PySem.W.dataLe false pyD)
structure SortOk (ds : List D) : Prop where
  py : ∀ d ∈ ds, d.py = some (pyD d)
  alike : PySem.W.AllAlike (ds.map pyD)
  kind : PySem.W.PwSortable (ds.map pyD)
  depth : ∀ d ∈ ds, (pyD d).depth ≤ 100
def D.sorted : List D → W D
  | [d] => d.walk.bind fun ds => (W.need (SortOk ds ∧ ds.length ≤ sizeLine)).bind fun _ => W.pure (.lst (sortL ds))
  | _ => W.fail
def rSortX (K : PySem.W.Frag) (mg : Str → Option Value) : List V → Hp → VK → Prop := fun vs H Q => ∃ z a ds, ZOk K z H ∧ vs = [V.ref a] ∧ Src K mg z H a ds ∧ SortOk ds ∧ ds.length ≤ sizeLine ∧ ∀ z' ys p, Step K z H z' H → RpL K mg z' ys (sortL ds) → H p = none → Q (.ref p) (upd H p (.lst ys))
theorem each_rp {X : Cx} {pins : List (Addr × Obj)} {σ : Sg} {H : Hp} {s : Shared} {z : Z} {h' : Heap} (I : Inv X pins σ H s) (ok : ZOk X.K z H) (hk : ∀ b o, s.heap.get? b = some o → h'.get? b = some o) : ∀ {xs : List V} {us : List Value} {ds : List D}, Vals xs us → RpL X.K X.mg z xs ds → (∀ d ∈ ds, d.py = some (pyD d)) →
    PySem.W.EachIs (fun v d => (∃ x, RelV x v ∧ Rp X.K X.mg z x d) ∧ ∃ as, Reads h' v (pyD d) as) us ds
  | _, _, _, .nil, .nil, _ => .nil
  | _, _, d :: ds, .cons r1 t1, .cons r2 t2, hp => by
    obtain ⟨as, q⟩ := Dp.reads I _ _ _ (r2.dp ok.sub d (hp d List.mem_cons_self)) r1
    exact .cons ⟨⟨_, r1, r2⟩, as, PyProof.Rows.Reads.keeps hk q⟩ (each_rp I ok hk t1 t2 fun d hd => hp d (List.mem_cons_of_mem _ hd))
theorem each_back {K : PySem.W.Frag} {mg : Str → Option Value} {z : Z} : ∀ {us : List Value} {ds : List D}, PySem.W.EachIs (fun v d => ∃ x, RelV x v ∧ Rp K mg z x d) us ds → ∃ xs, Vals xs us ∧ RpL K mg z xs ds
  | _, _, .nil => ⟨[], .nil, .nil⟩
  | _, _, .cons ⟨x, h1, h2⟩ t => by
    obtain ⟨xs, h3, h4⟩ := each_back t
    exact ⟨x :: xs, .cons h1 h3, .cons h2 h4⟩
theorem cr_sortX {X : Cx} (hc : X.calm = true) (hu : X.A.units + 200 < cLine) : CallR X (.builtin "sorted") (rSortX X.K X.mg) := by
  intro pins s σ H vs us Q I r ⟨z, a, ds, ok, e, src, so, hz, k⟩
  subst e
  rw [Vals.ref1 r]
  have fin : ∀ z', Step X.K z H z' H → (∀ (E' : Value → Shared → Prop) (Q' : List Value → Shared → Prop), (∀ vs h' tk, (∀ b o, s.heap.get? b = some o → h'.get? b = some o) → PySem.W.EachIs (fun v d => (∃ x, RelV x v ∧ Rp X.K X.mg z' x d) ∧ ∃ as, Reads h' v (pyD d) as) vs ds → Q' vs { s with heap := h', toks := tk }) → wpAny (model X.prog X.w) X.A.in1 (collect (.ref a)) Q' E' s) →
      wpAny (model X.prog X.w) X.A (call (.builtin "sorted") [Value.ref a]) (EP X pins σ Q) X.xe s := fun z' st hcol => by
    refine PySem.W.pw_sorted_of (enc := pyD) (bs := ds) hcol so.alike so.kind hz (fun d hd => by have := so.depth d hd; omega) fun p h1 h' tk out c k1 hp k2 hg eo => ?_
    obtain ⟨ys, hv, hr⟩ := each_back eo
    have I1 : Inv X pins σ H { s with heap := h1 } := I.kept (t' := s.toks) k1
    have hl : ys.length ≤ sizeLine := by rw [hr.length]; show (sortL ds).length ≤ _; unfold sortL; rw [List.length_mergeSort]; exact hz
    exact ⟨.ref p, upd H p (.lst ys), I1.laid (t' := tk) k2 hp (show ObjOk X.prog X.w _ _ _ (.lst ys) from ⟨hl, out, c, hv, hg⟩), rfl, k z' ys p st hr (I1.hok.fresh hp)⟩
  have keepC : ∀ (vs : List Value) (b : Addr) (o : Obj), s.heap.get? b = some o → ((s.heap.push (seqObj "list" #[] 0)).update s.heap.objs.size (Obj.mapSeq (· ++ vs.toArray))).get? b = some o := fun vs b o e => by
    have hlt : b < s.heap.objs.size := Heap.lt_size e
    rw [Heap.get?_update_ne _ _ _ _ (Nat.ne_of_lt hlt), Heap.get?_push_ne _ _ _ (Nat.ne_of_lt hlt)]
    exact e
  cases src with
  | seq hs rl =>
    refine fin z (Step.refl ok) fun E' Q' hq => ?_
    rcases hs with hs | hs
    · obtain ⟨its, rv, pl, hz'⟩ := I.list hs
      exact collect_list pl.isList (hq its _ s.toks (keepC its) (each_rp I ok (keepC its) rv rl so.py)) (by rw [← rv.length]; exact hz')
    · obtain ⟨its, rv, pl, hz'⟩ := I.tuple hs
      exact PySem.W.pw_collect_tuple pl (hq its _ s.toks (keepC its) (each_rp I ok (keepC its) rv rl so.py)) (by rw [← rv.length]; exact hz')
  | @dK kvs ds q e2 =>
    refine fin z (Step.refl ok) fun E' Q' hq => ?_
    obtain ⟨zl, lo, vs, rk, hd⟩ := (show ObjOk X.prog X.w H s.heap a (.dK kvs) from I.hok a _ q)
    obtain ⟨ep, hat⟩ := hd.dictAt
    have hl : kvs.length = vs.length := Paired.length rk
    refine PySem.W.kdu_collect (A := X.A.in1) (PySem.W.kdl_dict (knd := mixKind X.prog X.w) (kvs := vs) (ep := ep) lo) (I.ok.hd hc) hat (by rw [← hl]; exact zl) fun h' tk acc hk hacc => ?_
    have hv : Vals (kvs.map fun kv => L2.kV kv.1) acc.toList := by
      have el : acc.toList.length = acc.size := by simp
      refine vals_of_at (by rw [List.length_map, el, hacc.1, hl]) fun j x w h1 h2 => ?_
      obtain ⟨k, y, hky, hi⟩ := hacc.2 j w (by rw [← Array.getElem?_toList]; exact h2)
      have e1 : (kvs.map (·.1))[j]? = some k := by
        rw [KV.keys rk, List.getElem?_map, hky] <;> rfl
      have e2 : (kvs.map fun kv => L2.kV kv.1)[j]? = some (L2.kV k) := by
        have e3 : (kvs.map fun kv => L2.kV kv.1) = (kvs.map (·.1)).map L2.kV := by rw [List.map_map] <;> rfl
        rw [e3, List.getElem?_map, e1] <;> rfl
      rw [e2] at h1
      cases h1
      exact keyIs_rel hi
    refine hq _ h' tk hk (each_rp I ok hk hv ?_ so.py)
    rw [e2]
    have e3 := rpL_keys (K := X.K) (mg := X.mg) (z := z) (List.map (fun kv => kv.1) kvs)
    rw [List.map_map, List.map_map] at e3
    exact e3
  | @dT kvs ds q e2 =>
    obtain ⟨zl, hs, ks, pr, o, es, ep, ho, hx, hdt, he, hn⟩ := (show ObjOk X.prog X.w H s.heap a (.dT kvs) from I.hok a _ q)
    obtain ⟨z', st', r'⟩ := freeze_keys (mg := X.mg) ok (isKeys_of pr)
    refine fin z' st' fun E' Q' hq => ?_
    have l1 : es.size = ks.length := size_of_entries he
    have l2 : kvs.length = ks.length := Paired.length pr
    refine PySem.W.kdu_collect (A := X.A.in1) (kdl_raw hs hx hdt) (I.ok.hd hc) ho (by omega) fun h' tk acc hk it => ?_
    have ea : acc.toList = ks.map fun x => Value.ref x.2.1 := by
      have hl : acc.toList.length = ks.length := by rw [Array.length_toList, it.1]; exact l1
      apply List.ext_getElem?
      intro j
      rw [List.getElem?_map]
      cases hj : acc.toList[j]? with
      | none =>
        have h1 := List.getElem?_eq_none_iff.mp hj
        rw [List.getElem?_eq_none (by omega)]
        all_goals rfl
      | some v =>
        obtain ⟨en, hen, hv⟩ := it.2 j v (by rw [← Array.getElem?_toList]; exact hj)
        have qe := entry_at he j
        rw [hen] at qe
        cases hb : ks[j]? with
        | none =>
          rw [hb] at qe
          exact nomatch (show some en = none from qe)
        | some b =>
          rw [hb] at qe
          have e2 : en = entryOfKey (tupleKind (mixKind X.prog X.w)) b := Option.some.inj qe
          rw [hv, e2]
          all_goals rfl
    have eb : acc.toList = (ks.map fun x => x.2.1).map Value.ref := by rw [ea, List.map_map]; all_goals rfl
    refine hq _ h' tk hk (each_rp I st'.ok hk (xs := (ks.map fun x => x.2.1).map V.ref) (by rw [eb]; exact vals_refs _) (by rw [e2]; exact r') so.py)
  | @rng lo hi ds q ro e2 =>
    refine fin z (Step.refl ok) fun E' Q' hq => ?_
    obtain ⟨b1, b2, b3, b4, b5⟩ := ro
    obtain ⟨t, u, v, hr⟩ := (show ObjOk X.prog X.w H s.heap a (.rng lo hi) from I.hok a _ q)
    exact collect_range (A := X.A.in1) (I.ok.hd hc) hr (small_one b1 b2 b3 b4) (rangeSize_nat lo hi) b5 fun h' tk acc hk hi' => hq _ h' tk hk (each_rp I ok hk (vals_rg hi') (by rw [e2]; exact rngD_rp _ _) so.py)
theorem c_sorted : CallFE M S (.builtin "sorted") D.sorted := fun X G => by
  refine ⟨_, cr_sortX G.calm (by have := G.room.un; omega), fun {z H vs ds Q} fc ok rs h => ?_⟩
  obtain ⟨d, rfl, h⟩ := one_run (fun ds => by cases ds with
    | nil => rfl
    | cons d t => cases t <;> rfl) h
  obtain ⟨v, rfl, r⟩ := rs.one
  obtain ⟨a, ds, rfl, src, h⟩ := src_run ok r h
  exact ⟨z, a, ds, ok, rfl, src, h.1.1, h.1.2, fun z' ys p st r hp fc2 => kF_new h.2 st fc2 hp (.lst r)⟩

/-! min, max -/
def D.minL (d : D) (ds : List D) : D := ds.foldl (fun a y => if PySem.W.dataLt (pyD y) (pyD a) then y else a) d
def D.maxL (d : D) (ds : List D) : D := ds.foldl (fun a y => if PySem.W.dataLt (pyD a) (pyD y) then y else a) d
structure MinOk (ds : List D) : Prop where
  py : ∀ d ∈ ds, d.py = some (pyD d)
  alike : PySem.W.AlikeAll (ds.map pyD)
  depth : ∀ d ∈ ds, (pyD d).depth ≤ 100
mutual
theorem py_inj : ∀ (d e : D) {p : PyData}, d.py = some p → e.py = some p → d = e
  | .non, e, _, h1, h2 => by
    cases h1
    cases e <;> first
      | rfl
      | (exfalso; simp [D.py] at h2; done)
  | .bl b, e, _, h1, h2 => by
    cases h1
    cases e <;> first
      | (cases h2; rfl)
      | (exfalso; simp [D.py] at h2; done)
  | .int b, e, _, h1, h2 => by
    cases h1
    cases e <;> first
      | (cases h2; rfl)
      | (exfalso; simp [D.py] at h2; done)
  | .str b, e, _, h1, h2 => by
    cases h1
    cases e <;> first
      | (cases h2; rfl)
      | (exfalso; simp [D.py] at h2; done)
  | .tup xs, e, _, h1, h2 => by
    rw [D.py] at h1
    obtain ⟨ps, q1, rfl⟩ := Option.map_eq_some_iff.mp h1
    cases e with
    | tup ys =>
      rw [D.py] at h2
      obtain ⟨qs, q2, e2⟩ := Option.map_eq_some_iff.mp h2
      cases e2
      rw [pyL_inj xs ys q1 q2]
    | lst ys =>
      rw [D.py] at h2
      obtain ⟨qs, q2, e2⟩ := Option.map_eq_some_iff.mp h2
      cases e2
    | _ => exfalso; simp [D.py] at h2; done
  | .lst xs, e, _, h1, h2 => by
    rw [D.py] at h1
    obtain ⟨ps, q1, rfl⟩ := Option.map_eq_some_iff.mp h1
    cases e with
    | lst ys =>
      rw [D.py] at h2
      obtain ⟨qs, q2, e2⟩ := Option.map_eq_some_iff.mp h2
      cases e2
      rw [pyL_inj xs ys q1 q2]
    | tup ys =>
      rw [D.py] at h2
      obtain ⟨qs, q2, e2⟩ := Option.map_eq_some_iff.mp h2
      cases e2
    | _ => exfalso; simp [D.py] at h2; done
  | .ty _, _, _, h1, _ => by cases h1
  | .dK _, _, _, h1, _ => by cases h1
  | .dT _, _, _, h1, _ => by cases h1
  | .rng _ _, _, _, h1, _ => by cases h1
  | .fn _, _, _, h1, _ => by cases h1
  | .bag, _, _, h1, _ => by cases h1
  | .scr, _, _, h1, _ => by cases h1
theorem pyL_inj : ∀ (d e : List D) {p : List PyData}, pyL d = some p → pyL e = some p → d = e
  | [], [], _, _, _ => rfl
  | [], e :: es, _, h1, h2 => by
    cases h1
    rw [pyL] at h2
    split at h2
    · cases h2
    · cases h2
  | d :: ds, [], _, h1, h2 => by
    cases h2
    rw [pyL] at h1
    split at h1
    · cases h1
    · cases h1
  | d :: ds, e :: es, p, h1, h2 => by
    rw [pyL] at h1 h2
    split at h1
    · rename_i p1 ps1 a1 a2
      cases h1
      split at h2
      · rename_i p2 ps2 b1 b2
        cases h2
        rw [py_inj d e a1 b1, pyL_inj ds es a2 b2]
      · cases h2
    · cases h1
end
theorem pyL_of : ∀ {ds : List D}, (∀ d ∈ ds, d.py = some (pyD d)) → pyL ds = some (ds.map pyD)
  | [], _ => rfl
  | d :: ds, h => by rw [pyL, h d List.mem_cons_self, pyL_of fun e he => h e (List.mem_cons_of_mem _ he)]; rfl
theorem minL_mem : ∀ (ds : List D) (d : D), D.minL d ds ∈ d :: ds
  | [], d => List.mem_cons_self
  | y :: ys, d => by
    have h := minL_mem ys (if PySem.W.dataLt (pyD y) (pyD d) then y else d)
    show D.minL (if PySem.W.dataLt (pyD y) (pyD d) then y else d) ys ∈ _
    rcases List.mem_cons.mp h with h | h
    · rw [h]
      split
      · exact List.mem_cons_of_mem _ List.mem_cons_self
      · exact List.mem_cons_self
    · exact List.mem_cons_of_mem _ (List.mem_cons_of_mem _ h)
theorem maxL_mem : ∀ (ds : List D) (d : D), D.maxL d ds ∈ d :: ds
  | [], d => List.mem_cons_self
  | y :: ys, d => by
    have h := maxL_mem ys (if PySem.W.dataLt (pyD d) (pyD y) then y else d)
    show D.maxL (if PySem.W.dataLt (pyD d) (pyD y) then y else d) ys ∈ _
    rcases List.mem_cons.mp h with h | h
    · rw [h]
      split
      · exact List.mem_cons_of_mem _ List.mem_cons_self
      · exact List.mem_cons_self
    · exact List.mem_cons_of_mem _ (List.mem_cons_of_mem _ h)
theorem pyD_minL : ∀ (ds : List D) (d : D), pyD (D.minL d ds) = PySem.W.minD (pyD d) (ds.map pyD)
  | [], d => rfl
  | y :: ys, d => by
    show pyD (D.minL (if PySem.W.dataLt (pyD y) (pyD d) then y else d) ys) = PySem.W.minD (if PySem.W.dataLt (pyD y) (pyD d) then pyD y else pyD d) (ys.map pyD)
    rw [pyD_minL ys]
    split <;> rfl
theorem pyD_maxL : ∀ (ds : List D) (d : D), pyD (D.maxL d ds) = PySem.W.maxD (pyD d) (ds.map pyD)
  | [], d => rfl
  | y :: ys, d => by
    show pyD (D.maxL (if PySem.W.dataLt (pyD d) (pyD y) then y else d) ys) = PySem.W.maxD (if PySem.W.dataLt (pyD d) (pyD y) then pyD y else pyD d) (ys.map pyD)
    rw [pyD_maxL ys]
    split <;> rfl
theorem depthAll_le : ∀ {ps : List PyData} {n : Nat}, (∀ p ∈ ps, p.depth ≤ n) → PyData.depthAll ps ≤ n
  | [], n, _ => by simp [PyData.depthAll]
  | p :: ps, n, h => by
    rw [PyData.depthAll]
    exact Nat.max_le.mpr ⟨h p List.mem_cons_self, depthAll_le fun q hq => h q (List.mem_cons_of_mem _ hq)⟩
def rMinX (K : PySem.W.Frag) (mg : Str → Option Value) (f : D → List D → D) : List V → Hp → VK → Prop := fun vs H Q => ∃ z a d ds xs, ZOk K z H ∧ vs = [V.ref a] ∧ (SqL K H a xs ∨ SqT K H a xs) ∧ RpL K mg z xs (d :: ds) ∧ MinOk (d :: ds) ∧ ∀ y, Rp K mg z y (f d ds) → Q y H
theorem at_of {X : Cx} {pins : List (Addr × Obj)} {σ : Sg} {H : Hp} {s : Shared} {z : Z} (I : Inv X pins σ H s) (ok : ZOk X.K z H) {xs : List V} {us : List Value} {ds : List D} (rv : Vals xs us) (rl : RpL X.K X.mg z xs ds) (m : MinOk ds) {i : Nat} {v : Value} (hv : us[i]? = some v)
    {h' : Heap} (hk : ∀ b o, s.heap.get? b = some o → h'.get? b = some o) {e : D} (he : e ∈ ds) {bs : List Addr} (rd : Reads h' v (pyD e) bs) : ∃ y, RelV y v ∧ Rp X.K X.mg z y e := by
  have hi := (List.getElem?_eq_some_iff.mp hv).1
  have hl : xs.length = us.length := rv.length
  have hx : xs[i]? = some xs[i] := List.getElem?_eq_getElem (by omega)
  obtain ⟨d, hd, r⟩ := rl.getV hx
  have r1 : RelV xs[i] v := by
    have : ∀ {xs : List V} {us : List Value} {i : Nat} {x : V} {v : Value}, Vals xs us → xs[i]? = some x → us[i]? = some v → RelV x v := by
      intro xs us i x v h
      induction h generalizing i with
      | nil => intro e; simp at e
      | cons h t ih =>
        intro e1 e2
        cases i with
        | zero => simp at e1 e2; subst e1; subst e2; exact h
        | succ i => exact ih (by simpa using e1) (by simpa using e2)
    exact this rv hx hv
  have hdm : d ∈ ds := List.mem_of_getElem? hd
  obtain ⟨as, q⟩ := Dp.reads I _ _ _ (r.dp ok.sub d (m.py d hdm)) r1
  have e1 : pyD d = pyD e := PySem.W.alike_unique _ _ _ _ _ (m.alike.1 _ (List.mem_map.mpr ⟨d, hdm, rfl⟩) _ (List.mem_map.mpr ⟨e, he, rfl⟩)) (PyProof.Rows.Reads.keeps hk q) rd
  have e2 : d = e := py_inj d e (m.py d hdm) (by rw [e1]; exact m.py e he)
  subst e2
  exact ⟨_, r1, r⟩
theorem cr_minX {X : Cx} (hc : X.calm = true) (hu : X.A.units + 200 < cLine) : CallR X (.builtin "min") (rMinX X.K X.mg D.minL) := by
  intro pins s σ H vs us Q I r ⟨z, a, d, ds, xs, ok, e, hs, rl, m, k⟩
  subst e
  rw [Vals.ref1 r]
  have hdep : X.A.units + 1 + PyData.depthAll (pyD d :: ds.map pyD) < cLine := by
    have : PyData.depthAll (pyD d :: ds.map pyD) ≤ 100 := depthAll_le fun p hp => by
      obtain ⟨e, he, rfl⟩ := List.mem_map.mp (show p ∈ (d :: ds).map pyD from hp)
      exact m.depth e he
    omega
  rcases hs with hs | hs
  · obtain ⟨its, rv, pl, hz⟩ := I.list hs
    obtain ⟨as, hr⟩ := Dp.readsAll I _ _ _ (rl.dp ok.sub (d :: ds) (pyL_of m.py)) rv
    refine PySem.W.min_list_data (I.ok.hd hc) pl.isList hr m.alike hdep fun i v h' tk bs hv rd hk => ?_
    rw [← pyD_minL] at rd
    obtain ⟨y, r1, r2⟩ := at_of I ok rv rl m (by simpa using hv) hk (minL_mem ds d) rd
    exact ⟨y, H, I.kept (t' := tk) hk, r1, k y r2⟩
  · obtain ⟨its, rv, pl, hz⟩ := I.tuple hs
    obtain ⟨as, hr⟩ := Dp.readsAll I _ _ _ (rl.dp ok.sub (d :: ds) (pyL_of m.py)) rv
    refine PySem.W.min_tuple_data (I.ok.hd hc) pl hr m.alike hdep fun i v h' tk bs hv rd hk => ?_
    rw [← pyD_minL] at rd
    obtain ⟨y, r1, r2⟩ := at_of I ok rv rl m (by simpa using hv) hk (minL_mem ds d) rd
    exact ⟨y, H, I.kept (t' := tk) hk, r1, k y r2⟩
theorem cr_maxX {X : Cx} (hc : X.calm = true) (hu : X.A.units + 200 < cLine) : CallR X (.builtin "max") (rMinX X.K X.mg D.maxL) := by
  intro pins s σ H vs us Q I r ⟨z, a, d, ds, xs, ok, e, hs, rl, m, k⟩
  subst e
  rw [Vals.ref1 r]
  have hdep : X.A.units + 1 + PyData.depthAll (pyD d :: ds.map pyD) < cLine := by
    have : PyData.depthAll (pyD d :: ds.map pyD) ≤ 100 := depthAll_le fun p hp => by
      obtain ⟨e, he, rfl⟩ := List.mem_map.mp (show p ∈ (d :: ds).map pyD from hp)
      exact m.depth e he
    omega
  rcases hs with hs | hs
  · obtain ⟨its, rv, pl, hz⟩ := I.list hs
    obtain ⟨as, hr⟩ := Dp.readsAll I _ _ _ (rl.dp ok.sub (d :: ds) (pyL_of m.py)) rv
    refine PySem.W.max_list_data (I.ok.hd hc) pl.isList hr m.alike hdep fun i v h' tk bs hv rd hk => ?_
    rw [← pyD_maxL] at rd
    obtain ⟨y, r1, r2⟩ := at_of I ok rv rl m (by simpa using hv) hk (maxL_mem ds d) rd
    exact ⟨y, H, I.kept (t' := tk) hk, r1, k y r2⟩
  · obtain ⟨its, rv, pl, hz⟩ := I.tuple hs
    obtain ⟨as, hr⟩ := Dp.readsAll I _ _ _ (rl.dp ok.sub (d :: ds) (pyL_of m.py)) rv
    refine PySem.W.max_tuple_data (I.ok.hd hc) pl hr m.alike hdep fun i v h' tk bs hv rd hk => ?_
    rw [← pyD_maxL] at rd
    obtain ⟨y, r1, r2⟩ := at_of I ok rv rl m (by simpa using hv) hk (maxL_mem ds d) rd
    exact ⟨y, H, I.kept (t' := tk) hk, r1, k y r2⟩
/-- min(x, y) of two data -/
def rMin2 (K : PySem.W.Frag) (mg : Str → Option Value) : List V → Hp → VK → Prop := fun vs H Q => ∃ z x y d e, ZOk K z H ∧ vs = [x, y] ∧ RpL K mg z [x, y] [d, e] ∧ MinOk [d, e] ∧ ∀ v, Rp K mg z v (D.minL d [e]) → Q v H
theorem cr_min2X {X : Cx} (hc : X.calm = true) (hu : X.A.units + 200 < cLine) : CallR X (.builtin "min") (rMin2 X.K X.mg) := by
  intro pins s σ H vs us Q I r ⟨z, x, y, d, e, ok, e0, rl, m, k⟩
  subst e0
  obtain ⟨u1, u2, rfl, r1, r2⟩ := vals2 r
  have hdep : X.A.units + 1 + PyData.depthAll [pyD d, pyD e] < cLine := by
    have : PyData.depthAll [pyD d, pyD e] ≤ 100 := depthAll_le fun p hp => by
      obtain ⟨e', he, rfl⟩ := List.mem_map.mp (show p ∈ [d, e].map pyD from hp)
      exact m.depth e' he
    omega
  obtain ⟨as, hr⟩ := Dp.readsAll I _ _ _ (rl.dp ok.sub [d, e] (pyL_of m.py)) r
  refine PySem.W.pw_min_two (I.ok.hd hc) hr m.alike hdep fun i v h' tk bs hv rd hk => ?_
  rw [show PySem.W.minD (pyD d) [pyD e] = PySem.W.minD (pyD d) ([e].map pyD) from rfl, ← pyD_minL] at rd
  obtain ⟨y, q1, q2⟩ := at_of I ok r rl m hv hk (minL_mem [e] d) rd
  exact ⟨y, H, I.kept (t' := tk) hk, q1, k y q2⟩
def D.min : List D → W D
  | [.int i, .int j] => W.pure (.int (if j < i then j else i))
  | [.tup xs, .tup ys] => (W.need (MinOk [.tup xs, .tup ys])).bind fun _ => W.pure (D.minL (.tup xs) [.tup ys])
  | [.lst (d :: ds)] => (W.need (MinOk (d :: ds))).bind fun _ => W.pure (D.minL d ds)
  | [.tup (d :: ds)] => (W.need (MinOk (d :: ds))).bind fun _ => W.pure (D.minL d ds)
  | _ => W.fail
def D.max : List D → W D
  | [.int i, .int j] => W.pure (.int (if j > i then j else i))
  | [.lst (d :: ds)] => (W.need (MinOk (d :: ds))).bind fun _ => W.pure (D.maxL d ds)
  | [.tup (d :: ds)] => (W.need (MinOk (d :: ds))).bind fun _ => W.pure (D.maxL d ds)
  | _ => W.fail
theorem c_min : CallE M S (.builtin "min") D.min := fun X G => by
  refine ⟨_, ((call_min2 G.calm).or (cr_minX G.calm (by have := G.room.un; omega))).or (cr_min2X G.calm (by have := G.room.un; omega)), fun {z H vs ds Q} fc ok rs h => ?_⟩
  unfold D.min at h
  split at h
  · obtain ⟨v, u, rfl, r, r'⟩ := rs.two
    exact .inl (.inl ⟨_, _, by rw [r.int, r'.int], fun _ => h.now ok fc (.int _)⟩)
  · obtain ⟨v, u, rfl, r, r'⟩ := rs.two
    rcases r with r | ⟨_, _, _, _, _, c⟩
    · rcases r' with r' | ⟨_, _, _, _, _, c⟩
      · exact .inr ⟨z, _, _, _, _, ok, rfl, .cons r (.cons r' .nil), h.1, fun y ry _ => h.2.now ok fc ry⟩
      · cases c
    · cases c
  · obtain ⟨v, rfl, r⟩ := rs.one
    obtain ⟨a, vs, rfl, q, r⟩ := r.lst ok
    exact .inl (.inr ⟨z, a, _, _, vs, ok, rfl, .inl (.of q), r, h.1, fun y ry _ => h.2.now ok fc ry⟩)
  · obtain ⟨v, rfl, r⟩ := rs.one
    obtain ⟨a, vs, rfl, q, r⟩ := r.tup ok
    exact .inl (.inr ⟨z, a, _, _, vs, ok, rfl, .inr (.of q), r, h.1, fun y ry _ => h.2.now ok fc ry⟩)
  · exact (show False from h).elim
theorem c_max : CallE M S (.builtin "max") D.max := fun X G => by
  refine ⟨_, (call_max2 G.calm).or (cr_maxX G.calm (by have := G.room.un; omega)), fun {z H vs ds Q} fc ok rs h => ?_⟩
  unfold D.max at h
  split at h
  · obtain ⟨v, u, rfl, r, r'⟩ := rs.two
    exact .inl ⟨_, _, by rw [r.int, r'.int], fun _ => h.now ok fc (.int _)⟩
  · obtain ⟨v, rfl, r⟩ := rs.one
    obtain ⟨a, vs, rfl, q, r⟩ := r.lst ok
    exact .inr ⟨z, a, _, _, vs, ok, rfl, .inl (.of q), r, h.1, fun y ry _ => h.2.now ok fc ry⟩
  · obtain ⟨v, rfl, r⟩ := rs.one
    obtain ⟨a, vs, rfl, q, r⟩ := r.tup ok
    exact .inr ⟨z, a, _, _, vs, ok, rfl, .inr (.of q), r, h.1, fun y ry _ => h.2.now ok fc ry⟩
  · exact (show False from h).elim
end
end PW

set_option Elab.async false
set_option linter.all false
set_option maxRecDepth 100000
set_option maxHeartbeats 1000000
namespace PW
open PySem PySem.Spec PyProof.Rows L2

/-! ### keys of dicts -/
def asKey : D → Option Key
  | .int i => some (.inl i)
  | .str x => some (.inr x)
  | _ => none
def asKeys : List D → Option (List Key)
  | [] => some []
  | d :: ds => match asKey d, asKeys ds with
    | some k, some ks => some (k :: ks)
    | _, _ => none
section
variable {K : PySem.W.Frag} {mg : Str → Option Value} {z : Z} {H : Hp}
theorem asKey_eq {v : V} {d : D} {k : Key} (r : Rp K mg z v d) (e : asKey d = some k) : v = L2.kV k := by
  cases d with
  | int i => cases e; cases r; rfl
  | str i => cases e; cases r; rfl
  | _ => cases e
theorem asKeys_eq : ∀ {vs : List V} {ds : List D} {ks : List Key}, RpL K mg z vs ds → asKeys ds = some ks → vs = ks.map L2.kV
  | _, _, _, .nil, e => by cases e; rfl
  | _, _, _, .cons (d := d) (ds := ds) h r, e => by
    unfold asKeys at e
    cases q : asKey d with
    | none => rw [q] at e; cases e
    | some k =>
      cases q2 : asKeys ds with
      | none => rw [q, q2] at e; cases e
      | some ks =>
        rw [q, q2] at e
        cases e
        rw [asKey_eq h q, asKeys_eq r q2]
        rfl
/-- what a dict holds -/
def getK {κ : Type} [DecidableEq κ] (kvs : List (κ × D)) (k : κ) : Option D := (kvs.find? fun kv => decide (kv.1 = k)).map (·.2)
theorem getK_K : ∀ {vs : List (Key × V)} {ds : List (Key × D)} (k : Key), RpK K mg z vs ds → (valV vs k = none ∧ getK ds k = none) ∨ ∃ v d, valV vs k = some v ∧ getK ds k = some d ∧ Rp K mg z v d
  | _, _, k, .nil => .inl ⟨rfl, rfl⟩
  | _, _, k, .cons (k := k') (v := v) (d := d) h r => by
    by_cases e : k' = k
    · exact .inr ⟨v, d, valV_pos e, by simp [getK, List.find?_cons, e], h⟩
    · have e1 : ∀ {ds : List (Key × D)}, getK ((k', d) :: ds) k = getK ds k := by intro ds; simp [getK, List.find?_cons, e]
      rw [valV_neg (p := (k', v)) e, e1]
      exact getK_K k r
theorem getK_T : ∀ {vs : List (List Key × V)} {ds : List (List Key × D)} (k : List Key), RpT K mg z vs ds → (valV vs k = none ∧ getK ds k = none) ∨ ∃ v d, valV vs k = some v ∧ getK ds k = some d ∧ Rp K mg z v d
  | _, _, k, .nil => .inl ⟨rfl, rfl⟩
  | _, _, k, .cons (k := k') (v := v) (d := d) h r => by
    by_cases e : k' = k
    · exact .inr ⟨v, d, valV_pos e, by simp [getK, List.find?_cons, e], h⟩
    · have e1 : ∀ {ds : List (List Key × D)}, getK ((k', d) :: ds) k = getK ds k := by intro ds; simp [getK, List.find?_cons, e]
      rw [valV_neg (p := (k', v)) e, e1]
      exact getK_T k r
/-- looking a key up -/
def D.find : D → D → W (Option D)
  | .dK kvs, d => (W.some? (asKey d)).bind fun k => W.pure (getK kvs k)
  | .dT kvs, .tup ds => (W.some? (asKeys ds)).bind fun k => W.pure (getK kvs k)
  | _, _ => W.fail
theorem find_run {c d : D} {x y : V} {Q : Option D → Prop} (ok : ZOk K z H) (rc : RB K mg z H x c) (rd : Rp K mg z y d) (h : (c.find d).run Q) :
    ∃ a o r, x = .ref a ∧ DGet H a y o ∧ Q r ∧ ((o = none ∧ r = none) ∨ ∃ v d, o = some v ∧ r = some d ∧ Rp K mg z v d) := by
  unfold D.find at h
  split at h
  · obtain ⟨a, kvs, rfl, q, r⟩ := rc.dK ok
    obtain ⟨k, e, h⟩ := some_run h
    refine ⟨a, _, _, rfl, by rw [asKey_eq rd e]; exact DGet.k q, h, ?_⟩
    exact getK_K k r
  · obtain ⟨a, kvs, rfl, q, r⟩ := rc.dT ok
    obtain ⟨k, e, h⟩ := some_run h
    cases rd with
    | tup hf rl =>
      have eb := ok.sub _ _ hf
      rw [asKeys_eq rl e] at eb
      refine ⟨a, _, _, rfl, DGet.t q eb, h, ?_⟩
      exact getK_T k r
  · exact (show False from h).elim
end

/-! ### in, not in -/
def D.has : D → D → W Bool
  | d, .lst xs => d.py?.bind fun p => (D.lst xs).py?.bind fun _ => (W.some? (pyL xs)).bind fun ps => W.pure (ps.any fun q => PyData.eqv q p)
  | d, .tup xs => d.py?.bind fun p => (D.tup xs).py?.bind fun _ => (W.some? (pyL xs)).bind fun ps => W.pure (ps.any fun q => PyData.eqv q p)
  | .str x, .str y => W.pure (!(Builtin.Str.occurrences y x 0 y.length 1).isEmpty)
  | d, c => (c.find d).bind fun r => W.pure r.isSome
section
variable {X : Cx}
theorem op_inT (hu : X.A.units + 65 < cLine) : OpR X (compareOp .In) (fun x y H Q => ∃ d ds, Dp X.K H x d ∧ Dp X.K H y (.tuple ds) ∧ SeqAt.shaped d = true ∧ SeqAt.shaped (.tuple ds) = true ∧ Q (.bl (ds.any fun z => PyData.eqv z d)) H) := by
  intro pins s σ H x y v u Q I rx ry h
  obtain ⟨d, ds, hd, he, sd, se, q⟩ := h
  obtain ⟨as, r1⟩ := Dp.reads I d x v hd rx
  obtain ⟨bs, r2⟩ := Dp.reads I (.tuple ds) y u he ry
  exact SeqAt.in_tuple_reads r2 r1 (SeqAt.canLay_of_shaped se) (SeqAt.canLay_of_shaped sd) (room_in_shaped sd hu) ⟨.bl _, H, I, rfl, q⟩
theorem op_notInT (hu : X.A.units + 65 < cLine) : OpR X (compareOp .NotIn) (fun x y H Q => ∃ d ds, Dp X.K H x d ∧ Dp X.K H y (.tuple ds) ∧ SeqAt.shaped d = true ∧ SeqAt.shaped (.tuple ds) = true ∧ Q (.bl (!ds.any fun z => PyData.eqv z d)) H) := by
  intro pins s σ H x y v u Q I rx ry h
  obtain ⟨d, ds, hd, he, sd, se, q⟩ := h
  obtain ⟨as, r1⟩ := Dp.reads I d x v hd rx
  obtain ⟨bs, r2⟩ := Dp.reads I (.tuple ds) y u he ry
  exact SeqAt.notIn_tuple_reads r2 r1 (SeqAt.canLay_of_shaped se) (SeqAt.canLay_of_shaped sd) (room_in_shaped sd hu) ⟨.bl _, H, I, rfl, q⟩
theorem op_inDct (hu : X.A.units + 1 < cLine) : OpR X (compareOp .In) (fun x y H Q => ∃ a r, y = .ref a ∧ DGet H a x r ∧ Q (.bl r.isSome) H) := by
  intro pins s σ H x y v u Q I rx ry h
  obtain ⟨a, r, rfl, g, q⟩ := h
  cases ry
  exact d_in hu I g rx fun s' I' => ⟨.bl _, H, I', rfl, q⟩
theorem op_notInDct (hu : X.A.units + 1 < cLine) : OpR X (compareOp .NotIn) (fun x y H Q => ∃ a r, y = .ref a ∧ DGet H a x r ∧ Q (.bl (!r.isSome)) H) := by
  intro pins s σ H x y v u Q I rx ry h
  obtain ⟨a, r, rfl, g, q⟩ := h
  cases ry
  exact d_notIn hu I g rx fun s' I' => ⟨.bl _, H, I', rfl, q⟩
end
def D.in (d c : D) : W D := (d.has c).bind fun b => W.pure (.bl b)
def D.notIn (d c : D) : W D := (d.has c).bind fun b => W.pure (.bl !b)
section
variable {K : PySem.W.Frag} {mg : Str → Option Value} {z : Z} {H : Hp}
/-- the five readings of in -/
inductive Has (K : PySem.W.Frag) (H : Hp) (x y : V) (b : Bool) : Prop
  | l (d : PyData) (ds : List PyData) : Dp K H x d → Dp K H y (.list ds) → SeqAt.shaped d = true → SeqAt.shaped (.list ds) = true → b = (ds.any fun z => PyData.eqv z d) → Has K H x y b
  | t (d : PyData) (ds : List PyData) : Dp K H x d → Dp K H y (.tuple ds) → SeqAt.shaped d = true → SeqAt.shaped (.tuple ds) = true → b = (ds.any fun z => PyData.eqv z d) → Has K H x y b
  | s (i j : Str) : x = .str i → y = .str j → b = (!(Builtin.Str.occurrences j i 0 j.length 1).isEmpty) → Has K H x y b
  | d (a : Addr) (r : Option V) : y = .ref a → DGet H a x r → b = r.isSome → Has K H x y b
theorem has_run {d c : D} {x y : V} {Q : Bool → Prop} (ok : ZOk K z H) (rx : Rp K mg z x d) (rc : RB K mg z H y c) (h : (d.has c).run Q) : ∃ b, Has K H x y b ∧ Q b := by
  unfold D.has at h
  split at h
  · obtain ⟨p, e1, s1, h⟩ := py_run h
    obtain ⟨q, e2, s2, h⟩ := py_run h
    have h : ((W.some? (pyL _)).bind fun ps => W.pure (ps.any fun q => PyData.eqv q p)).run Q := h
    obtain ⟨ps, e3, h5⟩ := some_run h
    have e4 : q = .list ps := by
      have e2 : (pyL _).map PyData.list = some q := e2
      rw [e3] at e2
      cases e2
      rfl
    subst e4
    exact ⟨_, .l p ps (rx.dp ok.sub _ e1) (rc.dp ok e2) s1 s2 rfl, h5⟩
  · obtain ⟨p, e1, s1, h⟩ := py_run h
    obtain ⟨q, e2, s2, h⟩ := py_run h
    have h : ((W.some? (pyL _)).bind fun ps => W.pure (ps.any fun q => PyData.eqv q p)).run Q := h
    obtain ⟨ps, e3, h5⟩ := some_run h
    have e4 : q = .tuple ps := by
      have e2 : (pyL _).map PyData.tuple = some q := e2
      rw [e3] at e2
      cases e2
      rfl
    subst e4
    exact ⟨_, .t p ps (rx.dp ok.sub _ e1) (rc.dp ok e2) s1 s2 rfl, h5⟩
  · cases rx
    exact ⟨_, .s _ _ rfl rc.str rfl, h⟩
  · obtain ⟨a, o, r, e, g, h, q⟩ := find_run ok rc rx h
    refine ⟨_, .d a o e g rfl, ?_⟩
    rcases q with ⟨q1, q2⟩ | ⟨v, d, q1, q2, _⟩
    · rw [q1]
      rw [q2] at h
      exact h
    · rw [q1]
      rw [q2] at h
      exact h
end
/-- an operator whose left side is known -/
def OpV1 (X : Cx) (r : R2) (w : D → D → W D) : Prop := ∀ {z : Z} {H : Hp} {x y : V} {d e : D} {Q : VK}, Fct X.K H → ZOk X.K z H → Rp X.K X.mg z x d → RB X.K X.mg z H y e → (w d e).run (kV X.K X.mg z H Q) → r x y H (fun v H' => Fct X.K H' → Q v H')
def OpE1 (M : Mo) (S : Fix) (fn : Value → Value → Sem Value) (w : D → D → W D) : Prop := ∀ X (G : Good M S X), ∃ r, OpR X fn r ∧ OpV1 X r w
section
variable {M : Mo} {S : Fix} {e a b c : Expr} {es : List Expr} {f g h : Env → W D} {pos : Pos} {w : D → D → W D}
theorem o_in : OpE1 M S (compareOp .In) D.in := fun X G => by
  have hu := G.room.un
  refine ⟨_, ((op_inD (by omega)).or (op_inT (by omega))).or ((op_in_str).or (op_inDct (by omega))), fun {z H x y d e Q} fc ok rx ry h => ?_⟩
  obtain ⟨b, q, h⟩ := has_run ok rx ry h
  cases q with
  | l d ds h1 h2 h3 h4 e => subst e; exact .inl (.inl ⟨d, ds, h1, h2, h3, h4, fun _ => kV.now h ok fc (.bl _)⟩)
  | t d ds h1 h2 h3 h4 e => subst e; exact .inl (.inr ⟨d, ds, h1, h2, h3, h4, fun _ => kV.now h ok fc (.bl _)⟩)
  | s i j h1 h2 e => subst e; exact .inr (.inl ⟨i, j, h1, h2, fun _ => kV.now h ok fc (.bl _)⟩)
  | d a r h1 h2 e => subst e; exact .inr (.inr ⟨a, r, h1, h2, fun _ => kV.now h ok fc (.bl _)⟩)
theorem o_notin : OpE1 M S (compareOp .NotIn) D.notIn := fun X G => by
  have hu := G.room.un
  refine ⟨_, ((op_notInD (by omega)).or (op_notInT (by omega))).or ((op_notIn_str).or (op_notInDct (by omega))), fun {z H x y d e Q} fc ok rx ry h => ?_⟩
  obtain ⟨b, q, h⟩ := has_run ok rx ry h
  cases q with
  | l d ds h1 h2 h3 h4 e => subst e; exact .inl (.inl ⟨d, ds, h1, h2, h3, h4, fun _ => kV.now h ok fc (.bl _)⟩)
  | t d ds h1 h2 h3 h4 e => subst e; exact .inl (.inr ⟨d, ds, h1, h2, h3, h4, fun _ => kV.now h ok fc (.bl _)⟩)
  | s i j h1 h2 e => subst e; exact .inr (.inl ⟨i, j, h1, h2, fun _ => kV.now h ok fc (.bl _)⟩)
  | d a r h1 h2 e => subst e; exact .inr (.inr ⟨a, r, h1, h2, fun _ => kV.now h ok fc (.bl _)⟩)
theorem v_cmp1 {op : CmpOp} (ho : OpE1 M S (compareOp op) w) (ha : EvV M S a f) (hb : EvB M S b g) (hm : behindInMarks op b = false := by kernel_rfl) : EvV M S (.Compare a [op] [b] pos) fun ρ => (f ρ).bind fun d => (g ρ).bind fun e => w d e := fun X G => by
  obtain ⟨r, ho, hv⟩ := ho X G
  refine (pe_cmpR ho (ha X G) (hb X G) hm).impW fun σ H Q fc ⟨z0, H0, z, ρ, E, h⟩ => ?_
  refine ⟨z0, H0, z, ρ, E, (f ρ).mono (fun d k x z1 H1 st1 fc1 r1 => ?_) h⟩
  refine ⟨z0, H0, z1, ρ, E.step st1, (g ρ).mono (fun e k2 y z2 H2 st2 fc2 r2 => ?_) k⟩
  exact hv fc2 st2.ok (r1.le st2.le) r2 ((w d e).mono (fun d k => k.step (st1.trans st2)) k2)
theorem t_cmp1 {op : CmpOp} (ho : OpE1 M S (compareOp op) w) (ha : EvV M S a f) (hb : EvB M S b g) (hm : behindInMarks op b = false := by kernel_rfl) : EvT M S (.Compare a [op] [b] pos) fun ρ => (f ρ).bind fun d => (g ρ).bind fun e => (w d e).bind D.tr := fun X G => by
  obtain ⟨r, ho, hv⟩ := ho X G
  refine (pt_cmpR (opR_fct ho) (ha X G) (hb X G) hm).impW fun σ H Q fc hh => ?_
  obtain ⟨z0, H0, z, ρ, E, h⟩ := hh
  refine ⟨z0, H0, z, ρ, E, (f ρ).mono (fun d k x z1 H1 st1 fc1 r1 => ?_) h⟩
  refine ⟨z0, H0, z1, ρ, E.step st1, (g ρ).mono (fun e k2 y z2 H2 st2 fc2 r2 => ?_) k⟩
  have q := hv (Q := fun v H' => ∃ k, v = .bl k ∧ (Fct X.K H' → Q k H')) fc2 st2.ok (r1.le st2.le) r2 ((w d e).mono (fun d k v z' H' st fc r => by
    obtain ⟨b, rfl, k⟩ := tr_run k
    cases r
    exact ⟨b, rfl, fun fc => k z' H' ((st1.trans st2).trans st) fc⟩) k2)
  exact q

/-! ### subscripts -/
theorem ix_dct {X : Cx} (hu : X.A.units + 1 < cLine) : IxR X (fun x y H Q => ∃ a v, x = .ref a ∧ DGet H a y (some v) ∧ Q v H) := by
  intro value slice pins s σ H x y v u Q I rx ry h hs
  obtain ⟨a, w, rfl, g, q⟩ := h
  obtain rfl : v = Value.ref a := rx
  exact tail_any (dict_typeIs I g) PySem.F.slot_dict_getitem.lookup (d_getItem hu I g ry fun w' s' I' rw' => ⟨w, H, I', rw', q⟩) hs
def D.ix : D → D → W D
  | .lst xs, .int i => W.some? (atI xs i)
  | .tup xs, .int i => W.some? (atI xs i)
  | .str z, .int i => (W.need (z.length ≤ sizeLine)).bind fun _ => (W.some? (atI z.cps.toList i)).bind fun c => W.pure (.str ⟨#[c]⟩)
  | c, d => (c.find d).bind W.some?
theorem RpL.atI {K : PySem.W.Frag} {mg : Str → Option Value} {z : Z} {vs : List V} {ds : List D} {i : Int} {d : D} (r : RpL K mg z vs ds) (e : atI ds i = some d) : ∃ v, L2.atI vs i = some v ∧ Rp K mg z v d := by
  unfold L2.atI at e ⊢
  rw [r.length]
  cases q : ixN ds.length i with
  | none => rw [q] at e; cases e
  | some j =>
    rw [q] at e
    exact r.get e
theorem v_ix (ha : EvB M S a f) (hb : EvV M S b g) (hs : PlainIx b := by intro _ _; kernel_rfl) : EvV M S (.Subscript a b pos) fun ρ => (f ρ).bind fun d => (g ρ).bind fun e => d.ix e := fun X G => by
  refine (pe_ix (ix_seq.or (ix_dct (by have := G.room.un; omega))) (ha X G) (hb X G) hs).impW fun σ H Q fc ⟨z0, H0, z, ρ, E, h⟩ => ?_
  refine ⟨z0, H0, z, ρ, E, (f ρ).mono (fun d k x z1 H1 st1 fc1 r1 => ?_) h⟩
  refine ⟨z0, H0, z1, ρ, E.step st1, (g ρ).mono (fun e k2 y z2 H2 st2 fc2 r2 => ?_) k⟩
  have r3 := r1.step st2
  have st12 := st1.trans st2
  have k2 : (D.ix d e).run (kV X.K X.mg z H Q) := k2
  unfold D.ix at k2
  split at k2
  · obtain ⟨v, e, k⟩ := some_run k2
    obtain ⟨a, vs, rfl, q, r⟩ := r3.lst st2.ok
    cases r2
    obtain ⟨v', e', r'⟩ := r.atI e
    exact .inl (.inl ⟨a, vs, _, v', rfl, rfl, .of q, e', fun _ => k v' z2 H2 st12 fc2 r'⟩)
  · obtain ⟨v, e, k⟩ := some_run k2
    obtain ⟨a, vs, rfl, q, r⟩ := r3.tup st2.ok
    cases r2
    obtain ⟨v', e', r'⟩ := r.atI e
    exact .inl (.inr (.inl ⟨a, vs, _, v', rfl, rfl, .of q, e', fun _ => k v' z2 H2 st12 fc2 r'⟩))
  · obtain ⟨hz, k⟩ := k2
    obtain ⟨c, e, k⟩ := some_run k
    cases r2
    exact .inl (.inr (.inr ⟨_, _, c, r3.str, rfl, hz, e, fun _ => k _ z2 H2 st12 fc2 (.str _)⟩))
  · obtain ⟨a, o, r, e, g, k, q⟩ := find_run st2.ok r3 r2 k2
    rcases q with ⟨q1, q2⟩ | ⟨v, d, q1, q2, r⟩
    · rw [q2] at k; exact (show False from k).elim
    · rw [q2] at k
      rw [q1] at g
      exact .inr ⟨a, v, e, g, fun _ => k v z2 H2 st12 fc2 r⟩

/-! ### slices -/
def kO (K : PySem.W.Frag) (z : Z) (H : Hp) (Q : Option Int → Hp → Prop) : Option Int → Prop := fun o => ∀ z' H', Step K z H z' H' → Fct K H' → Q o H'
def tO (K : PySem.W.Frag) (mg : Str → Option Value) (mt : Mt) (f : Env → W (Option Int)) : TO := fun σ H Q => ∃ z0 H0 z ρ, EnvR mt K mg z0 H0 z H σ ρ ∧ (f ρ).run (kO K z H Q)
def EvO (M : Mo) (S : Fix) (e : Option Expr) (f : Env → W (Option Int)) : Prop := ∀ X (G : Good M S X), PO X e (tO X.K X.mg G.m f)
theorem _root_.L2.PO.impW {X : Cx} {e : Option Expr} {t t' : TO} (h : PO X e t) (hi : ∀ σ H Q, Fct X.K H → t' σ H Q → t σ H (fun v H' => Fct X.K H' → Q v H')) : PO X e t' :=
  ⟨fun pins s σ H Q I hw => thn (h.run pins s σ H _ I (hi σ H Q (fct_of I) hw)) fun _ _ ⟨v, H', I', r, q⟩ => ⟨v, H', I', r, q (fct_of I')⟩⟩
theorem p_none : EvO M S none fun _ => W.pure none := fun X G => po_none.impW fun σ H Q fc ⟨z0, H0, z, ρ, E, h⟩ => fun _ => h z H (Step.refl E.ok) fc
def D.asInt : D → W Int
  | .int i => W.pure i
  | _ => W.fail
theorem asInt_run {d : D} {Q : Int → Prop} (h : d.asInt.run Q) : ∃ i, d = .int i ∧ Q i := by
  cases d with
  | int i => exact ⟨i, rfl, h⟩
  | _ => exact (show False from h).elim
theorem p_some (ha : EvV M S a f) : EvO M S (some a) fun ρ => (f ρ).bind fun d => d.asInt.bind fun i => W.pure (some i) := fun X G => (po_some (ha X G)).impW fun σ H Q fc ⟨z0, H0, z, ρ, E, h⟩ => by
  refine ⟨z0, H0, z, ρ, E, (f ρ).mono (fun d k v z1 H1 st1 fc1 r1 => ?_) h⟩
  obtain ⟨i, rfl, k⟩ := asInt_run k
  cases r1
  exact ⟨i, rfl, fun _ => k z1 H1 st1 fc1⟩
/-- what lies in a slice -/
def cutL {α : Type} (xs : List α) (lo hi : Option Int) : List α := (xs.drop (HT.sIx xs.length 0 lo)).take (HT.sIx xs.length xs.length hi - HT.sIx xs.length 0 lo)
theorem RpL.cut {K : PySem.W.Frag} {mg : Str → Option Value} {z : Z} {vs : List V} {ds : List D} (r : RpL K mg z vs ds) (lo hi : Option Int) : RpL K mg z (cutV vs lo hi) (cutL ds lo hi) := by
  unfold cutV cutL
  rw [r.length]
  exact (r.drop _).take _
def D.slice : D → Option Int → Option Int → W D
  | .lst xs, lo, hi => W.pure (.lst (cutL xs lo hi))
  | .tup xs, lo, hi => W.pure (.tup (cutL xs lo hi))
  | _, _, _ => W.fail
variable {lo hi : Option Expr} {fl fh : Env → W (Option Int)} {p2 : Pos}
theorem v_slice (ha : EvB M S a f) (hl : EvO M S lo fl) (hh : EvO M S hi fh) : EvV M S (.Subscript a (.Slice lo hi none p2) pos) fun ρ => (f ρ).bind fun d => (fl ρ).bind fun l => (fh ρ).bind fun u => d.slice l u := fun X G => by
  refine (pe_slice (sl_list.or sl_tupA) (ha X G) (hl X G) (hh X G)).impW fun σ H Q fc ⟨z0, H0, z, ρ, E, h⟩ => ?_
  refine ⟨z0, H0, z, ρ, E, (f ρ).mono (fun d k x z1 H1 st1 fc1 r1 => ?_) h⟩
  refine ⟨z0, H0, z1, ρ, E.step st1, (fl ρ).mono (fun l k2 z2 H2 st2 fc2 => ?_) k⟩
  refine ⟨z0, H0, z2, ρ, (E.step st1).step st2, (fh ρ).mono (fun u k3 z3 H3 st3 fc3 => ?_) k2⟩
  have r3 := (r1.step st2).step st3
  have st13 := (st1.trans st2).trans st3
  have k3 : (D.slice d l u).run (kV X.K X.mg z H Q) := k3
  cases d with
  | lst xs =>
    obtain ⟨a, vs, rfl, q, r⟩ := r3.lst st3.ok
    exact .inl ⟨a, vs, rfl, .of q, fun p hp fc4 => kV_new (d := .lst (cutL xs l u)) k3 st13 fc4 hp (.lst Z.put_at ((r.cut _ _).le (Z.le_put (st3.ok.free hp))))⟩
  | tup xs =>
    obtain ⟨a, vs, e, q, r⟩ := r3.tup st3.ok
    refine .inr ⟨a, vs, e, .of q, fun hw _ => ?_, fun _ p hp fc4 => kV_new (d := .tup (cutL xs l u)) k3 st13 fc4 hp (.tup Z.put_at ((r.cut _ _).le (Z.le_put (st3.ok.free hp))))⟩
    have k3 : kV X.K X.mg z H Q (.tup (cutL xs l u)) := k3
    have e2 : cutL xs l u = xs := by
      unfold cutL
      rw [← r.length, hw.1, hw.2, r.length]
      simp
    rw [e2] at k3
    rcases r3 with r3 | ⟨_, _, _, _, _, c⟩
    · rw [e] at r3
      exact k3 _ z3 H3 st13 fc3 r3
    · cases c
  | _ => exact (show False from k3).elim
def D.rev : D → W D
  | .lst xs => W.pure (.lst xs.reverse)
  | _ => W.fail
theorem v_rev {k : Nat} {p1 p3 : Pos} (ha : EvB M S a f) : EvV M S (.Subscript a (.Slice none none (some (.UnaryOp .USub (.Constant (.int 1) k p1) p2)) p3) pos) fun ρ => (f ρ).bind D.rev := fun X G => by
  refine (pe_revL (ha X G)).impW fun σ H Q fc ⟨z0, H0, z, ρ, E, h⟩ => ?_
  refine ⟨z0, H0, z, ρ, E, (f ρ).mono (fun d k x z1 H1 st1 fc1 r1 => ?_) h⟩
  unfold D.rev at k
  split at k
  · obtain ⟨a, vs, rfl, q, r⟩ := r1.lst st1.ok
    exact ⟨a, vs, rfl, .of q, fun p hp fc4 => kV_new k st1 fc4 hp (.lst Z.put_at (r.reverse.le (Z.le_put (st1.ok.free hp))))⟩
  · exact (show False from k).elim
def D.neg : D → W D
  | .int i => W.pure (.int (-i))
  | _ => W.fail
theorem v_neg (ha : EvB M S a f) : EvV M S (.UnaryOp .USub a pos) fun ρ => (f ρ).bind D.neg := fun X G => by
  refine (pe_un un_neg (ha X G)).impW fun σ H Q fc ⟨z0, H0, z, ρ, E, h⟩ => ?_
  refine ⟨z0, H0, z, ρ, E, (f ρ).mono (fun d k x z1 H1 st1 fc1 r1 => ?_) h⟩
  unfold D.neg at k
  split at k
  · exact ⟨_, r1.int, fun _ => k _ z1 H1 st1 fc1 (.int _)⟩
  · exact (show False from k).elim

/-! ### calls of the module's own defs -/
variable {fs : Env → W (List D)} {x : Str} {p : Pos} {Φ : Eps → List D → W D}
theorem v_call (j : Nat) (ha : EvAV M S (e :: es) fs) (hT : M.T[j]? = some (x, Φ) := by rfl) (hg : S.sc.names.lookup x = some .globalImplicit := by kernel_rfl) (hd : (x == ("__debug__" : Str)) = false := by kernel_rfl)
    (he : ∀ env, starEach (e :: es) env = (false, eval e env) :: starEach es env := by intro _; kernel_rfl) (hpl : ∀ env, (backTo pos (starEach es env)).any (·.1) = false := by intro _; kernel_rfl) :
    EvV M S (.Call (.Name x p) (e :: es) [] pos) fun ρ => (fs ρ).bind (Φ M.eps) := fun X G => by
  obtain ⟨f, hm, hk, F⟩ := G.tab.at_ x Φ (List.mem_of_getElem? hT)
  have core : PE X (.Call (.Name x p) (e :: es) [] pos) (fun σ H Q => tAv X.K X.mg G.m fs σ H fun vs H1 => ∃ E, Passes (L2.CX X.prog X.w) X E ∧ spW X.K X.mg G.tb Φ vs H1 Q E) := by
    refine ⟨fun pins s σ H Q I h => ?_⟩
    refine wpAny_Call_Name_kw (ld_glob I (gl_of G hg) hm ?_ hd)
    refine PySem.W.callWith_K (h₀ := X.base) I.ok.mod.kin hk (thn ((ha X G).run pos pins s σ H _ I h) fun us s1 ⟨vs, H1, I1, r, E, pa, q⟩ => ⟨I1.kIn, ?_⟩) (he _) (hpl _)
    exact wpAny_call (run_fnR F G.room pa I1 r q)
  refine core.impW fun σ H Q fc ⟨z0, H0, z, ρ, E, h⟩ => ⟨z0, H0, z, ρ, E, (fs ρ).mono (fun ds k vs z1 H1 st1 fc1 r1 => ?_) h⟩
  exact ⟨wx X.K X.mg M.eps z0 H0, passes_call (G.tk z0 H0 E.base) fun _ _ _ _ h => h, M.eps, z1, ds, st1.le.tb.trans (E.st.le.tb.trans (G.tz _ _ E.base)), st1.ok, r1, (Φ M.eps ds).mono (fun d k v z2 H2 st2 fc2 r2 _ => k v z2 H2 (st1.trans st2) fc2 r2) k, fun _ _ _ h => wx_step (E.st.trans st1) h⟩
/-- a def of the table, called through a slot -/
def Mo.fnOf (M : Mo) : D → W (List D → W D)
  | .fn x => (W.some? (M.T.lookup x)).bind fun Φ => W.pure (Φ M.eps)
  | _ => W.fail
theorem v_callV (i : Nat) (ha : EvAV M S (e :: es) fs) (hN : S.N[i]? = some x := by kernel_rfl) (hv : visC S.sc x = true := by kernel_rfl) (hi : S.mt.contains i = false := by kernel_rfl)
    (hd : (x == ("__debug__" : Str)) = false := by kernel_rfl) (hcd : (x == ("__classdict__" : Str)) = false := by kernel_rfl)
    (he : ∀ env, starEach (e :: es) env = (false, eval e env) :: starEach es env := by intro _; kernel_rfl) (hpl : ∀ env, (backTo pos (starEach es env)).any (·.1) = false := by intro _; kernel_rfl) :
    EvV M S (.Call (.Name x p) (e :: es) [] pos) fun ρ => (getV ρ i).bind fun d => (M.fnOf d).bind fun Φ => (fs ρ).bind Φ := fun X G => by
  have core : PE X (.Call (.Name x p) (e :: es) [] pos) (fun σ H Q => ∃ f Φ, σ[i]? = some (some (.ref f)) ∧ PySem.W.keepIn X.K (.ref f) = true ∧ FnR X.prog X.w X.K X.mg X.base (L2.CX X.prog X.w) M.lv f (spW X.K X.mg G.tb Φ) ∧ tAv X.K X.mg G.m fs σ H fun vs H1 => ∃ E, Passes (L2.CX X.prog X.w) X E ∧ spW X.K X.mg G.tb Φ vs H1 Q E) := by
    refine ⟨fun pins s σ H Q I ⟨f, Φ, hs, hk, F, h⟩ => ?_⟩
    refine wpAny_Call_Name_kw (thn ((pe_var (pos := p) (i := i) (by rw [G.N]; exact hN) (by rw [G.sc]; exact vis_of hv) hd hcd).run pins s σ H (fun v H1 => v = .ref f ∧ H1 = H) I ⟨.ref f, hs, rfl, rfl⟩) fun u s1 ⟨v, H1, I1, r1, ev, eH⟩ => ?_)
    subst ev
    rw [eH] at I1
    cases r1
    refine PySem.W.callWith_K (h₀ := X.base) I.ok.mod.kin hk (thn ((ha X G).run pos pins s1 σ H _ I1 h) fun us s2 ⟨vs, H2, I2, r, E, pa, q⟩ => ⟨I2.kIn, ?_⟩) (he _) (hpl _)
    exact wpAny_call (run_fnR F G.room pa I2 r q)
  refine core.impW fun σ H Q fc ⟨z0, H0, z, ρ, E, h⟩ => ?_
  obtain ⟨d, e1, k⟩ := getV_run h
  obtain ⟨v, e2, r⟩ := E.val i d (fun m => by rw [List.contains_iff_mem.mpr (show i ∈ S.mt from m)] at hi; cases hi) e1
  cases d with
  | fn x =>
    cases r with
    | fn hm hk =>
      rename_i f
      obtain ⟨Φ, q, k⟩ := some_run (show ((W.some? (M.T.lookup x)).bind fun Φ => (fs ρ).bind (Φ M.eps)).run (kV X.K X.mg z H Q) from k)
      obtain ⟨f', hm', hk', F⟩ := G.tab.at_ x Φ (PySem.mem_of_lookup q)
      rw [hm] at hm'
      cases hm'
      refine ⟨f, Φ, e2, hk, F, z0, H0, z, ρ, E, (fs ρ).mono (fun ds k vs z1 H1 st1 fc1 r1 => ?_) k⟩
      exact ⟨wx X.K X.mg M.eps z0 H0, passes_call (G.tk z0 H0 E.base) fun _ _ _ _ h => h, M.eps, z1, ds, st1.le.tb.trans (E.st.le.tb.trans (G.tz _ _ E.base)), st1.ok, r1, (Φ M.eps ds).mono (fun d k v z2 H2 st2 fc2 r2 _ => k v z2 H2 (st1.trans st2) fc2 r2) k, fun _ _ _ h => wx_step (E.st.trans st1) h⟩
  | _ => exact (show False from k).elim
end
end PW

set_option Elab.async false
set_option linter.all false
set_option maxRecDepth 100000
set_option maxHeartbeats 1000000
namespace PW
open PySem PySem.Spec PyProof.Rows L2

/-! ### own objects: made, changed, given away -/
section
variable {mt : Mt} {K : PySem.W.Frag} {mg : Str → Option Value} {z0 z z' : Z} {H0 H H' : Hp} {σ : Sg} {ρ : Env}
/-- a new object into a slot of own objects -/
theorem EnvR.setOwn (E : EnvR mt K mg z0 H0 z H σ ρ) (st : Step K z H z' H') {i : Nat} {a : Addr} {o : HO} {d : D} (hi : i ∈ mt) (hn : fr H a) (hf : z'.f a = none) (hβ : ¬ z'.β a) (ho : H' a = some o) (c : Cont K mg z' o d) :
    EnvR mt K mg z0 H0 z' H' (σ.set i (some (.ref a))) (ρ.set i (some d)) := by
  have E1 := E.step st
  have na := E.nown' hn
  refine ⟨E1.st, E1.base, by rw [List.length_set, List.length_set]; exact E1.len, fun j e hj q => ?_, fun j e hj q => ?_, fun j k d1 e1 hj hk hjk q q' => ?_⟩
  · have h : i ≠ j := fun x => hj (x ▸ hi)
    rw [List.getElem?_set_ne h] at q ⊢
    exact E1.val j e hj q
  · by_cases h : i = j
    · subst h
      by_cases hl : i < ρ.length
      · rw [List.getElem?_set_self hl] at q
        cases q
        exact ⟨_, List.getElem?_set_self (by rw [← E.len]; exact hl), a, o, rfl, hf, (E.st.was' (fun e => hβ (st.le.β a e)) hn), hβ, ho, c⟩
      · rw [List.getElem?_eq_none (by rw [List.length_set]; omega)] at q
        cases q
    · rw [List.getElem?_set_ne h] at q ⊢
      exact E1.own j e hj q
  · by_cases h1 : i = j
    · subst h1
      rw [List.getElem?_set_ne hjk] at q' ⊢
      by_cases hl : i < σ.length
      · rw [List.getElem?_set_self hl]
        exact fun e => na k e1 hk q' e.symm
      · have e0 : (σ.set i (some (V.ref a)))[i]? = none := List.getElem?_eq_none (by rw [List.length_set]; omega)
        rw [e0]
        intro e
        obtain ⟨v, e2, _⟩ := E.own k e1 hk q'
        rw [e2] at e
        cases e
    · rw [List.getElem?_set_ne h1] at q ⊢
      by_cases h2 : i = k
      · subst h2
        by_cases hl : i < σ.length
        · rw [List.getElem?_set_self hl]
          exact na j d1 hj q
        · have e0 : (σ.set i (some (V.ref a)))[i]? = none := List.getElem?_eq_none (by rw [List.length_set]; omega)
          rw [e0]
          intro e
          obtain ⟨v, e2, _⟩ := E.own j d1 hj q
          rw [e2] at e
          cases e
      · rw [List.getElem?_set_ne h2] at q' ⊢
        exact E.apart j k d1 e1 hj hk hjk q q'
/-- an own object changes -/
theorem EnvR.chg (E : EnvR mt K mg z0 H0 z H σ ρ) {i : Nat} {a : Addr} {o : HO} {d d' : D} (hi : i ∈ mt) (hd : ρ[i]? = some (some d)) (hs : σ[i]? = some (some (.ref a))) (c : Cont K mg z o d') : EnvR mt K mg z0 H0 z (upd H a o) σ (ρ.set i (some d')) := by
  obtain ⟨v, e2, a', o1, rfl, f0, h0, b, q, c1⟩ := E.own i d hi hd
  rw [hs] at e2
  cases e2
  have hl : i < ρ.length := (List.getElem?_eq_some_iff.mp hd).1
  refine ⟨E.st.other h0 f0 b, E.base, by rw [List.length_set]; exact E.len, fun j e hj q => ?_, fun j e hj q1 => ?_, fun j k d1 e1 hj hk hjk q q' => ?_⟩
  · have h : i ≠ j := fun x => hj (x ▸ hi)
    rw [List.getElem?_set_ne h] at q
    exact E.val j e hj q
  · by_cases h : i = j
    · subst h
      rw [List.getElem?_set_self hl] at q1
      cases q1
      exact ⟨_, hs, a, o, rfl, f0, h0, b, upd_same, c⟩
    · rw [List.getElem?_set_ne h] at q1
      obtain ⟨v, e2, a2, o2, rfl, g0, k0, b2, q2, c2⟩ := E.own j e hj q1
      refine ⟨_, e2, a2, o2, rfl, g0, k0, b2, ?_, c2⟩
      rw [upd_ne (fun x => E.apart i j d e hi hj h hd q1 (by rw [hs, e2, x]))]
      exact q2
  · have h1 : ∃ d, ρ[j]? = some (some d) := by
      by_cases h : i = j
      · subst h; exact ⟨d, hd⟩
      · rw [List.getElem?_set_ne h] at q; exact ⟨_, q⟩
    have h2 : ∃ d, ρ[k]? = some (some d) := by
      by_cases h : i = k
      · subst h; exact ⟨d, hd⟩
      · rw [List.getElem?_set_ne h] at q'; exact ⟨_, q'⟩
    obtain ⟨d2, h1⟩ := h1
    obtain ⟨d3, h2⟩ := h2
    exact E.apart j k d2 d3 hj hk hjk h1 h2
/-- an own object is given away: known from now on -/
theorem EnvR.give (E : EnvR mt K mg z0 H0 z H σ ρ) {i : Nat} {d : D} (hi : i ∈ mt) (hd : ρ[i]? = some (some d)) : ∃ v z1, σ[i]? = some (some v) ∧ Z.le z z1 ∧ EnvR mt K mg z0 H0 z1 H σ (ρ.set i none) ∧ Rp K mg z1 v d := by
  obtain ⟨v, e2, a, o, rfl, f0, h0, b, q, c⟩ := E.own i d hi hd
  have ok := E.ok.freeze f0 b q c.nt.nb
  have le : Z.le z (z.put a o) := Z.le_put f0
  have hne : ∀ {j : Nat} {e : D}, (ρ.set i none)[j]? = some (some e) → j ≠ i ∧ ρ[j]? = some (some e) := fun {j e} q => by
    by_cases h : i = j
    · subst h
      by_cases hl : i < ρ.length
      · rw [List.getElem?_set_self hl] at q; cases q
      · rw [List.getElem?_eq_none (by rw [List.length_set]; omega)] at q; cases q
    · rw [List.getElem?_set_ne h] at q
      exact ⟨fun x => h x.symm, q⟩
  have st : Step K z0 H0 (z.put a o) H := ⟨E.st.le.trans le, ok, E.st.keep, fun x o' h1 h2 h3 => by
    show upd z.f a o x = none
    rw [upd_ne (ne_of_fr h2 h3.nb h0)]
    exact E.st.new x o' h1 h2 h3, fun x e => E.st.βn x e⟩
  refine ⟨_, z.put a o, e2, le, ⟨st, E.base, by rw [List.length_set]; exact E.len, fun j e hj q1 => ?_, fun j e hj q1 => ?_, fun j k d1 e1 hj hk hjk q1 q2 => E.apart j k d1 e1 hj hk hjk (hne q1).2 (hne q2).2⟩, (c.le le).rp Z.put_at⟩
  · obtain ⟨v, e3, r⟩ := E.val j e hj (hne q1).2
    exact ⟨v, e3, r.le le⟩
  · obtain ⟨v, e3, a2, o2, rfl, g0, k0, b2, q2, c2⟩ := E.own j e hj (hne q1).2
    refine ⟨_, e3, a2, o2, rfl, ?_, k0, b2, q2, c2.le le⟩
    show upd z.f a o a2 = none
    rw [upd_ne (fun x => E.apart i j d e hi hj (fun y => (hne q1).1 y.symm) hd (hne q1).2 (by rw [e2, e3, x]))]
    exact g0
end

/-! ### statements -/
def _root_.L2.Ends.f (K : PySem.W.Frag) (D : Ends) : Ends := ⟨fun σ H => Fct K H → D.nx σ H, fun v H => Fct K H → D.rt v H, fun σ H => Fct K H → D.bk σ H, fun σ H => Fct K H → D.ct σ H⟩
theorem sp_fct {X : Cx} {pins : List (Addr × Obj)} {D : Ends} {f : Flow} {s' : Shared} (h : SP X pins (D.f X.K) f s') : SP X pins D f s' := by
  cases f with
  | next => obtain ⟨σ', H', I, q⟩ := h; exact ⟨σ', H', I, q (fct_of I)⟩
  | brk => obtain ⟨σ', H', I, q⟩ := h; exact ⟨σ', H', I, q (fct_of I)⟩
  | cont => obtain ⟨σ', H', I, q⟩ := h; exact ⟨σ', H', I, q (fct_of I)⟩
  | ret u => obtain ⟨v, σ', H', I, r, q⟩ := h; exact ⟨v, σ', H', I, r, q (fct_of I)⟩
theorem _root_.L2.PS.impW {X : Cx} {st : Stmt} {t t' : TS} (h : PS X st t) (hi : ∀ D σ H, Fct X.K H → t' D σ H → t (D.f X.K) σ H) : PS X st t' :=
  ⟨fun pins s σ H D I hw => thn (h.run pins s σ H _ I (hi D σ H (fct_of I) hw)) fun _ _ q => sp_fct q⟩
section
variable (K : PySem.W.Frag) (mg : Str → Option Value) (mt : Mt)
def kS (z0 : Z) (H0 : Hp) (z : Z) (D : Ends) : Out → Prop
  | .nx ρ => ∀ σ z' H, Z.le z z' → EnvR mt K mg z0 H0 z' H σ ρ → D.nx σ H
  | .bk ρ => ∀ σ z' H, Z.le z z' → EnvR mt K mg z0 H0 z' H σ ρ → D.bk σ H
  | .ct ρ => ∀ σ z' H, Z.le z z' → EnvR mt K mg z0 H0 z' H σ ρ → D.ct σ H
  | .rt d => ∀ v z H, Step K z0 H0 z H → Fct K H → Rp K mg z v d → D.rt v H
def tS (w : Env → W Out) : TS := fun D σ H => ∃ z0 H0 z ρ, EnvR mt K mg z0 H0 z H σ ρ ∧ (w ρ).run (kS K mg mt z0 H0 z D)
end
theorem kS.le {K : PySem.W.Frag} {mg : Str → Option Value} {mt : Mt} {z0 z z1 : Z} {H0 : Hp} {D : Ends} {o : Out} (l : Z.le z z1) (k : kS K mg mt z0 H0 z D o) : kS K mg mt z0 H0 z1 D o := by
  cases o with
  | nx ρ => exact fun σ z' H l' => k σ z' H (l.trans l')
  | bk ρ => exact fun σ z' H l' => k σ z' H (l.trans l')
  | ct ρ => exact fun σ z' H l' => k σ z' H (l.trans l')
  | rt d => exact k
def EvS (M : Mo) (S : Fix) (st : Stmt) (w : Env → W Out) : Prop := ∀ X (G : Good M S X), PS X st (tS X.K X.mg G.m w)
def EvSs (M : Mo) (S : Fix) (sts : List Stmt) (w : Env → W Out) : Prop := ∀ X (G : Good M S X), PSs X sts (tS X.K X.mg G.m w)
/-- one after the other -/
def seqW (a b : Env → W Out) : Env → W Out := fun ρ => (a ρ).bind fun o => match o with
  | .nx ρ' => b ρ'
  | .rt d => W.pure (.rt d)
  | .bk ρ' => W.pure (.bk ρ')
  | .ct ρ' => W.pure (.ct ρ')
section
variable {M : Mo} {S : Fix} {st : Stmt} {sts : List Stmt} {a b w : Env → W Out} {pos : Pos} {e c : Expr} {f g : Env → W D} {p : Env → W Bool}
theorem ss_nil : EvSs M S [] fun ρ => W.pure (.nx ρ) := fun X G => ⟨fun pins s σ H D I ⟨z0, H0, z, ρ, E, h⟩ => pss_nil.run pins s σ H D I (h σ z H (Z.le.refl z) E)⟩
theorem ss_one (h : EvS M S st w) : EvSs M S [st] w := fun X G => pss_one (h X G)
theorem ss_cons (h : EvS M S st a) (hs : EvSs M S sts b) : EvSs M S (st :: sts) (seqW a b) := fun X G => by
  have core := pss_cons (h X G) (hs X G)
  refine ⟨fun pins s σ H D I ⟨z0, H0, z, ρ, E, hw⟩ => core.run pins s σ H D I ⟨z0, H0, z, ρ, E, (a ρ).mono (fun o k => ?_) hw⟩⟩
  cases o with
  | nx ρ' => exact fun σ z' H l E => ⟨z0, H0, z', ρ', E, (b ρ').mono (fun o k => k.le l) k⟩
  | rt d => exact k
  | bk ρ' => exact k
  | ct ρ' => exact k
theorem s_never : EvS M S st fun _ => W.fail := fun X G => ⟨fun _ _ _ _ _ _ ⟨_, _, _, _, _, h⟩ => (show False from h).elim⟩
theorem ss_never : EvSs M S sts fun _ => W.fail := fun X G => ⟨fun _ _ _ _ _ _ ⟨_, _, _, _, _, h⟩ => (show False from h).elim⟩
theorem s_pass : EvS M S (.Pass pos) fun ρ => W.pure (.nx ρ) := fun X G => ⟨fun pins s σ H D I ⟨z0, H0, z, ρ, E, h⟩ => ps_pass.run pins s σ H D I (h σ z H (Z.le.refl z) E)⟩
theorem s_break : EvS M S (.Break pos) fun ρ => W.pure (.bk ρ) := fun X G => ⟨fun pins s σ H D I ⟨z0, H0, z, ρ, E, h⟩ => ps_break.run pins s σ H D I (h σ z H (Z.le.refl z) E)⟩
theorem s_cont : EvS M S (.Continue pos) fun ρ => W.pure (.ct ρ) := fun X G => ⟨fun pins s σ H D I ⟨z0, H0, z, ρ, E, h⟩ => ps_continue.run pins s σ H D I (h σ z H (Z.le.refl z) E)⟩
theorem s_doc {x : Str} {j : Nat} {pos' : Pos} : EvS M S (.Expr (.Constant (.str x) j pos) pos') fun ρ => W.pure (.nx ρ) := fun X G => ⟨fun pins s σ H D I ⟨z0, H0, z, ρ, E, h⟩ => ps_doc.run pins s σ H D I (h σ z H (Z.le.refl z) E)⟩
theorem s_expr (he : EvV M S e f) (hs : ∀ env, swapsWith e none pos.line env = pure false := by intro _; kernel_rfl) : EvS M S (.Expr e pos) fun ρ => (f ρ).bind fun _ => W.pure (.nx ρ) := fun X G =>
  (ps_expr (he X G) (hs _)).impW fun D σ H fc ⟨z0, H0, z, ρ, E, h⟩ => ⟨z0, H0, z, ρ, E, (f ρ).mono (fun d k v z1 H1 st1 fc1 r1 _ => k σ z1 H1 st1.le (E.step st1)) h⟩
theorem s_ret (he : EvV M S e f) : EvS M S (.Return (some e) pos) fun ρ => (f ρ).bind fun d => W.pure (.rt d) := fun X G =>
  (ps_ret (he X G)).impW fun D σ H fc ⟨z0, H0, z, ρ, E, h⟩ => ⟨z0, H0, z, ρ, E, (f ρ).mono (fun d k v z1 H1 st1 fc1 r1 _ => k v z1 H1 (E.st.trans st1) fc1 r1) h⟩
theorem s_retN : EvS M S (.Return none pos) fun ρ => W.pure (.rt .non) := fun X G =>
  (ps_retN (X := X)).impW fun D σ H fc ⟨z0, H0, z, ρ, E, h⟩ => fun _ => h .non z H E.st fc .non
/-- return x, x an own object -/
theorem s_retM (i : Nat) {x : Str} {pos' : Pos} (hN : S.N[i]? = some x := by kernel_rfl) (hv : visC S.sc x = true := by kernel_rfl) (hi : S.mt.contains i = true := by kernel_rfl)
    (hd : (x == ("__debug__" : Str)) = false := by kernel_rfl) (hcd : (x == ("__classdict__" : Str)) = false := by kernel_rfl) : EvS M S (.Return (some (.Name x pos')) pos) fun ρ => (getV ρ i).bind fun d => W.pure (.rt d) := fun X G => by
  refine (ps_ret (pe_var (i := i) (by rw [G.N]; exact hN) (by rw [G.sc]; exact vis_of hv) hd hcd)).impW fun D σ H fc ⟨z0, H0, z, ρ, E, h⟩ => ?_
  obtain ⟨d, e, k⟩ := getV_run h
  obtain ⟨v, z1, e2, l1, E1, r⟩ := E.give (List.contains_iff_mem.mp hi) e
  exact ⟨v, e2, fun _ => k v z1 H E1.st fc r⟩
theorem s_if {as bs : List Stmt} (hc : EvT M S c p) (ha : EvSs M S as a) (hb : EvSs M S bs b) : EvS M S (.If c as bs pos) fun ρ => (p ρ).bind fun k => if k = true then a ρ else b ρ := fun X G => by
  have core := ps_if (pos := pos) (hc X G) (ha X G) (hb X G)
  refine ⟨fun pins s σ H D I ⟨z0, H0, z, ρ, E, h⟩ => core.run pins s σ H D I ⟨z0, H0, z, ρ, E, (p ρ).mono (fun d k z1 H1 st1 fc1 => ?_) h⟩⟩
  cases d with
  | true =>
    rw [if_pos rfl]
    exact ⟨z0, H0, z1, ρ, E.step st1, (a ρ).mono (fun o k => k.le st1.le) k⟩
  | false =>
    rw [if_neg Bool.false_ne_true]
    exact ⟨z0, H0, z1, ρ, E.step st1, (b ρ).mono (fun o k => k.le st1.le) k⟩
/-- x = e, a value -/
theorem s_set (i : Nat) {x : Str} {pos' : Pos} (he : EvV M S e f) (hN : S.N[i]? = some x := by kernel_rfl) (hl : locC S.sc x = true := by kernel_rfl) (hf : fnC S x = true := by kernel_rfl)
    (hi : S.mt.contains i = false := by kernel_rfl) (hs : ∀ env : PySem.Env, env.scope = S.sc → swapsWith e (some (.Name x pos')) pos.line env = pure false := by intro env he; cases env; cases he; kernel_rfl) : EvS M S (.Assign [.Name x pos'] e pos) fun ρ => (f ρ).bind fun d => W.pure (.nx (ρ.set i (some d))) := fun X G => by
  refine (ps_set (i := i) (by rw [G.N]; exact G.nd) (by rw [G.N]; exact hN) (by rw [G.sc]; exact loc_of hl) (he X G) (hs _ G.sc) (by rw [G.fn, G.sc]; exact fnC_of hf)).impW fun D σ H fc ⟨z0, H0, z, ρ, E, h⟩ => ?_
  have hm : i ∉ S.mt := fun m => by rw [List.contains_iff_mem.mpr m] at hi; cases hi
  exact ⟨z0, H0, z, ρ, E, (f ρ).mono (fun d k v z1 H1 st1 fc1 r1 => fun _ => k _ z1 H1 st1.le ((E.step st1).set hm r1)) h⟩
/-- x = e, an object of the def's own -/
theorem s_setF (i : Nat) {x : Str} {pos' : Pos} (he : EvF M S e f) (hN : S.N[i]? = some x := by kernel_rfl) (hl : locC S.sc x = true := by kernel_rfl) (hf : fnC S x = true := by kernel_rfl)
    (hi : S.mt.contains i = true := by kernel_rfl) (hs : ∀ env : PySem.Env, env.scope = S.sc → swapsWith e (some (.Name x pos')) pos.line env = pure false := by intro env he; cases env; cases he; kernel_rfl) : EvS M S (.Assign [.Name x pos'] e pos) fun ρ => (f ρ).bind fun d => W.pure (.nx (ρ.set i (some d))) := fun X G => by
  refine (ps_set (i := i) (by rw [G.N]; exact G.nd) (by rw [G.N]; exact hN) (by rw [G.sc]; exact loc_of hl) (he X G) (hs _ G.sc) (by rw [G.fn, G.sc]; exact fnC_of hf)).impW fun D σ H fc ⟨z0, H0, z, ρ, E, h⟩ => ?_
  exact ⟨z0, H0, z, ρ, E, (f ρ).mono (fun d k a o z1 H1 st1 fc1 hn hf hβ ho c => fun _ => k _ z1 H1 st1.le (E.setOwn st1 (List.contains_iff_mem.mp hi) hn hf hβ ho c)) h⟩
/-- x = y, y an own object that is given away -/
theorem s_move (i j : Nat) {x y : Str} {pos' pos2 : Pos} (hN : S.N[i]? = some x := by kernel_rfl) (hN2 : S.N[j]? = some y := by kernel_rfl) (hl : locC S.sc x = true := by kernel_rfl) (hf : fnC S x = true := by kernel_rfl)
    (hv : visC S.sc y = true := by kernel_rfl) (hi : S.mt.contains i = false := by kernel_rfl) (hj : S.mt.contains j = true := by kernel_rfl)
    (hd : (y == ("__debug__" : Str)) = false := by kernel_rfl) (hcd : (y == ("__classdict__" : Str)) = false := by kernel_rfl) (hs : ∀ env : PySem.Env, env.scope = S.sc → swapsWith (.Name y pos2) (some (.Name x pos')) pos.line env = pure false := by intro env he; cases env; cases he; kernel_rfl) :
    EvS M S (.Assign [.Name x pos'] (.Name y pos2) pos) fun ρ => (getV ρ j).bind fun d => W.pure (.nx ((ρ.set j none).set i (some d))) := fun X G => by
  refine (ps_set (i := i) (by rw [G.N]; exact G.nd) (by rw [G.N]; exact hN) (by rw [G.sc]; exact loc_of hl) (pe_var (i := j) (by rw [G.N]; exact hN2) (by rw [G.sc]; exact vis_of hv) hd hcd) (hs _ G.sc) (by rw [G.fn, G.sc]; exact fnC_of hf)).impW fun D σ H fc ⟨z0, H0, z, ρ, E, h⟩ => ?_
  obtain ⟨d, e, k⟩ := getV_run h
  obtain ⟨v, z1, e2, l1, E1, r⟩ := E.give (List.contains_iff_mem.mp hj) e
  have hm : i ∉ S.mt := fun m => by rw [List.contains_iff_mem.mpr m] at hi; cases hi
  exact ⟨v, e2, fun _ => k _ z1 H l1 (E1.set hm r)⟩
/-- target = e -/
theorem s_asg {tg : Expr} {t : Tgt} (he : EvV M S e f) (hg : EvG M S tg t) (hs : ∀ env : PySem.Env, env.scope = S.sc → swapsWithSole [tg] e pos.line env = pure false := by intro env he; cases env; cases he; kernel_rfl) (hw : ∀ env : PySem.Env, env.scope = S.sc → swappedStores [tg] e env = pure none := by intro env he; cases env; cases he; kernel_rfl)
    (h1 : ∀ env, (assignEach [tg] env).map (·.2) = [assign tg env] := by intro _; kernel_rfl) : EvS M S (.Assign [tg] e pos) fun ρ => (f ρ).bind fun d => (t.set d ρ).bind fun ρ' => W.pure (.nx ρ') := fun X G => by
  refine (ps_asg (he X G) (hg X G) (hs _ G.sc) (hw _ G.sc) (h1 _)).impW fun D σ H fc ⟨z0, H0, z, ρ, E, h⟩ => ?_
  exact ⟨z0, H0, z, ρ, E, (f ρ).mono (fun d k v z1 H1 st1 fc1 r1 => ⟨z0, H0, z1, ρ, d, E.step st1, r1, (t.set d ρ).mono (fun ρ' k2 σ' E' _ _ => fun _ => k2 σ' z1 H1 st1.le E') k⟩) h⟩
/-- a, b = e, e' with plain locals -/
theorem s_par (i j : Nat) {x y : Str} {e1 e2 : Expr} {px py pt : Pos} {kt k2 : Nat} {pt2 : Pos} (h1 : EvV M S e1 f) (h2 : EvV M S e2 g) (hN : S.N[i]? = some x := by kernel_rfl) (hN2 : S.N[j]? = some y := by kernel_rfl) (hij : i ≠ j := by decide)
    (hx : S.sc.names.lookup x = some .local := by kernel_rfl) (hy : S.sc.names.lookup y = some .local := by kernel_rfl) (hi : S.mt.contains i = false := by kernel_rfl) (hj : S.mt.contains j = false := by kernel_rfl)
    (ha : ∀ env, starEach [e1, e2] env = (false, eval e1 env) :: starEach [e2] env := by intro _; kernel_rfl) (hb : ∀ env, starEach [e2] env = (false, eval e2 env) :: starEach [] env := by intro _; kernel_rfl)
    (hw : ∀ env : PySem.Env, env.scope = S.sc → swappedStores [.Tuple [.Name x px, .Name y py] kt pt] (.Tuple [e1, e2] k2 pt2) env = pure (some [x, y]) := by intro env he; cases env; cases he; kernel_rfl) (hs : ∀ env : PySem.Env, env.scope = S.sc → swapsWithSole [.Tuple [.Name x px, .Name y py] kt pt] (.Tuple [e1, e2] k2 pt2) pos.line env = pure false := by intro env he; cases env; cases he; kernel_rfl) :
    EvS M S (.Assign [.Tuple [.Name x px, .Name y py] kt pt] (.Tuple [e1, e2] k2 pt2) pos) fun ρ => (f ρ).bind fun d => (g ρ).bind fun d' => W.pure (.nx ((ρ.set i (some d)).set j (some d'))) := fun X G => by
  refine (ps_par (i := i) (j := j) G.calm (by rw [G.N]; exact G.nd) (by rw [G.N]; exact hN) (by rw [G.N]; exact hN2) hij (by rw [G.sc]; exact hx) (by rw [G.sc]; exact hy) (pa_cons (h1 X G) (pa_cons (h2 X G) pa_nil (hb _)) (ha _)) (hw _ G.sc) (hs _ G.sc)).impW fun D σ H fc ⟨z0, H0, z, ρ, E, h⟩ => ?_
  have hm : i ∉ S.mt := fun m => by rw [List.contains_iff_mem.mpr m] at hi; cases hi
  have hm2 : j ∉ S.mt := fun m => by rw [List.contains_iff_mem.mpr m] at hj; cases hj
  refine ⟨z0, H0, z, ρ, E, (f ρ).mono (fun d k v z1 H1 st1 fc1 r1 => ?_) h⟩
  refine ⟨z0, H0, z1, ρ, E.step st1, (g ρ).mono (fun d' k v' z2 H2 st2 fc2 r2 => ?_) k⟩
  exact ⟨v, v', rfl, fun _ => k _ z2 H2 (st1.le.trans st2.le) ((((E.step st1).step st2).set hm (r1.le st2.le)).set hm2 r2)⟩
/-- .. the first an own object -/
theorem s_parF (i j : Nat) {x y : Str} {e1 e2 : Expr} {px py pt : Pos} {kt k2 : Nat} {pt2 : Pos} (h1 : EvF M S e1 f) (h2 : EvV M S e2 g) (hN : S.N[i]? = some x := by kernel_rfl) (hN2 : S.N[j]? = some y := by kernel_rfl) (hij : i ≠ j := by decide)
    (hx : S.sc.names.lookup x = some .local := by kernel_rfl) (hy : S.sc.names.lookup y = some .local := by kernel_rfl) (hi : S.mt.contains i = true := by kernel_rfl) (hj : S.mt.contains j = false := by kernel_rfl)
    (ha : ∀ env, starEach [e1, e2] env = (false, eval e1 env) :: starEach [e2] env := by intro _; kernel_rfl) (hb : ∀ env, starEach [e2] env = (false, eval e2 env) :: starEach [] env := by intro _; kernel_rfl)
    (hw : ∀ env : PySem.Env, env.scope = S.sc → swappedStores [.Tuple [.Name x px, .Name y py] kt pt] (.Tuple [e1, e2] k2 pt2) env = pure (some [x, y]) := by intro env he; cases env; cases he; kernel_rfl) (hs : ∀ env : PySem.Env, env.scope = S.sc → swapsWithSole [.Tuple [.Name x px, .Name y py] kt pt] (.Tuple [e1, e2] k2 pt2) pos.line env = pure false := by intro env he; cases env; cases he; kernel_rfl) :
    EvS M S (.Assign [.Tuple [.Name x px, .Name y py] kt pt] (.Tuple [e1, e2] k2 pt2) pos) fun ρ => (f ρ).bind fun d => (g ρ).bind fun d' => W.pure (.nx ((ρ.set i (some d)).set j (some d'))) := fun X G => by
  refine (ps_par (i := i) (j := j) G.calm (by rw [G.N]; exact G.nd) (by rw [G.N]; exact hN) (by rw [G.N]; exact hN2) hij (by rw [G.sc]; exact hx) (by rw [G.sc]; exact hy) (pa_cons (h1 X G) (pa_cons (h2 X G) pa_nil (hb _)) (ha _)) (hw _ G.sc) (hs _ G.sc)).impW fun D σ H fc ⟨z0, H0, z, ρ, E, h⟩ => ?_
  have hm2 : j ∉ S.mt := fun m => by rw [List.contains_iff_mem.mpr m] at hj; cases hj
  refine ⟨z0, H0, z, ρ, E, (f ρ).mono (fun d k a o z1 H1 st1 fc1 hn hf hβ ho c => ?_) h⟩
  refine ⟨z0, H0, z1, ρ, E.step st1, (g ρ).mono (fun d' k v' z2 H2 st2 fc2 r2 => ?_) k⟩
  have E1 := (E.setOwn st1 (List.contains_iff_mem.mp hi) hn hf hβ ho c).step st2
  exact ⟨_, v', rfl, fun _ => k _ z2 H2 (st1.le.trans st2.le) (E1.set hm2 r2)⟩
theorem s_par3 (i j l : Nat) {x y u : Str} {e1 e2 e3 : Expr} {g3 : Env → W D} {px py pu pt : Pos} {kt k2 : Nat} {pt2 : Pos} (h1 : EvV M S e1 f) (h2 : EvV M S e2 g) (h3 : EvV M S e3 g3) (hN : S.N[i]? = some x := by kernel_rfl) (hN2 : S.N[j]? = some y := by kernel_rfl) (hN3 : S.N[l]? = some u := by kernel_rfl) (hij : i ≠ j := by decide) (hil : i ≠ l := by decide) (hjl : j ≠ l := by decide)
    (hx : S.sc.names.lookup x = some .local := by kernel_rfl) (hy : S.sc.names.lookup y = some .local := by kernel_rfl) (hu : S.sc.names.lookup u = some .local := by kernel_rfl) (hi : S.mt.contains i = false := by kernel_rfl) (hj : S.mt.contains j = false := by kernel_rfl) (hl : S.mt.contains l = false := by kernel_rfl)
    (ha : ∀ env, starEach [e1, e2, e3] env = (false, eval e1 env) :: starEach [e2, e3] env := by intro _; kernel_rfl) (hb : ∀ env, starEach [e2, e3] env = (false, eval e2 env) :: starEach [e3] env := by intro _; kernel_rfl) (hc : ∀ env, starEach [e3] env = (false, eval e3 env) :: starEach [] env := by intro _; kernel_rfl)
    (hw : ∀ env : PySem.Env, env.scope = S.sc → swappedStores [.Tuple [.Name x px, .Name y py, .Name u pu] kt pt] (.Tuple [e1, e2, e3] k2 pt2) env = pure (some [x, y, u]) := by intro env he; cases env; cases he; kernel_rfl) (hs : ∀ env : PySem.Env, env.scope = S.sc → swapsWithSole [.Tuple [.Name x px, .Name y py, .Name u pu] kt pt] (.Tuple [e1, e2, e3] k2 pt2) pos.line env = pure false := by intro env he; cases env; cases he; kernel_rfl) :
    EvS M S (.Assign [.Tuple [.Name x px, .Name y py, .Name u pu] kt pt] (.Tuple [e1, e2, e3] k2 pt2) pos) fun ρ => (f ρ).bind fun d => (g ρ).bind fun d' => (g3 ρ).bind fun d'' => W.pure (.nx (((ρ.set i (some d)).set j (some d')).set l (some d''))) := fun X G => by
  refine (ps_par3 (i := i) (j := j) (l := l) G.calm (by rw [G.N]; exact G.nd) (by rw [G.N]; exact hN) (by rw [G.N]; exact hN2) (by rw [G.N]; exact hN3) hij hil hjl (by rw [G.sc]; exact hx) (by rw [G.sc]; exact hy) (by rw [G.sc]; exact hu) (pa_cons (h1 X G) (pa_cons (h2 X G) (pa_cons (h3 X G) pa_nil (hc _)) (hb _)) (ha _)) (hw _ G.sc) (hs _ G.sc)).impW fun D σ H fc ⟨z0, H0, z, ρ, E, h⟩ => ?_
  have hm : i ∉ S.mt := fun m => by rw [List.contains_iff_mem.mpr m] at hi; cases hi
  have hm2 : j ∉ S.mt := fun m => by rw [List.contains_iff_mem.mpr m] at hj; cases hj
  have hm3 : l ∉ S.mt := fun m => by rw [List.contains_iff_mem.mpr m] at hl; cases hl
  refine ⟨z0, H0, z, ρ, E, (f ρ).mono (fun d k v z1 H1 st1 fc1 r1 => ?_) h⟩
  refine ⟨z0, H0, z1, ρ, E.step st1, (g ρ).mono (fun d' k v' z2 H2 st2 fc2 r2 => ?_) k⟩
  refine ⟨z0, H0, z2, ρ, (E.step st1).step st2, (g3 ρ).mono (fun d'' k v'' z3 H3 st3 fc3 r3 => ?_) k⟩
  exact ⟨v, v', v'', rfl, fun _ => k _ z3 H3 ((st1.le.trans st2.le).trans st3.le) ((((((E.step st1).step st2).step st3).set hm (r1.le (st2.le.trans st3.le))).set hm2 (r2.le st3.le)).set hm3 r3)⟩
/-- x += e, ints -/
theorem s_augI (i : Nat) {x : Str} {pos' : Pos} (he : EvV M S e f) (hN : S.N[i]? = some x := by kernel_rfl) (hl : locC S.sc x = true := by kernel_rfl) (hf : fnC S x = true := by kernel_rfl)
    (hi : S.mt.contains i = false := by kernel_rfl) : EvS M S (.AugAssign (.Name x pos') .Add e pos) fun ρ => (getV ρ i).bind fun d => d.asInt.bind fun k => (f ρ).bind fun d => d.asInt.bind fun l => W.pure (.nx (ρ.set i (some (.int (k + l))))) := fun X G => by
  refine (ps_aug (i := i) (by rw [G.N]; exact G.nd) (by rw [G.N]; exact hN) (by rw [G.sc]; exact loc_of hl) (he X G) ip_add (by rw [G.fn, G.sc]; exact fnC_of hf)).impW fun D σ H fc ⟨z0, H0, z, ρ, E, h⟩ => ?_
  have hm : i ∉ S.mt := fun m => by rw [List.contains_iff_mem.mpr m] at hi; cases hi
  obtain ⟨d, e1, k⟩ := getV_run h
  obtain ⟨n, rfl, k⟩ := asInt_run k
  obtain ⟨v, e2, r⟩ := E.val i _ hm e1
  cases r
  refine ⟨_, e2, z0, H0, z, ρ, E, (f ρ).mono (fun d k v z1 H1 st1 fc1 r1 => ?_) k⟩
  obtain ⟨l, rfl, k⟩ := asInt_run k
  cases r1
  exact ⟨_, _, rfl, rfl, fun _ => k _ z1 H1 st1.le ((E.step st1).set hm (.int _))⟩

/-! ### lists that grow, dicts that are put to -/
theorem own_lst {mt : Mt} {K : PySem.W.Frag} {mg : Str → Option Value} {z0 z : Z} {H0 H : Hp} {σ : Sg} {ρ : Env} {i : Nat} {xs : List D} (E : EnvR mt K mg z0 H0 z H σ ρ) (hi : i ∈ mt) (hd : ρ[i]? = some (some (.lst xs))) :
    ∃ a vs, σ[i]? = some (some (.ref a)) ∧ ¬ z.β a ∧ H a = some (.lst vs) ∧ RpL K mg z vs xs := by
  obtain ⟨v, e2, a, o, rfl, f0, h0, b, q, c⟩ := E.own i _ hi hd
  cases c with
  | lst r => exact ⟨a, _, e2, b, q, r⟩
def D.asLst : D → W (List D)
  | .lst xs => W.pure xs
  | _ => W.fail
theorem asLst_run {d : D} {Q : List D → Prop} (h : d.asLst.run Q) : ∃ i, d = .lst i ∧ Q i := by
  cases d with
  | lst i => exact ⟨i, rfl, h⟩
  | _ => exact (show False from h).elim
/-- x.append(e) -/
theorem s_append (i : Nat) {x : Str} {p1 p2 p3 : Pos} (he : EvV M S e f) (hN : S.N[i]? = some x := by kernel_rfl) (hv : visC S.sc x = true := by kernel_rfl) (hi : S.mt.contains i = true := by kernel_rfl)
    (hd : (x == ("__debug__" : Str)) = false := by kernel_rfl) (hcd : (x == ("__classdict__" : Str)) = false := by kernel_rfl)
    (hbase : ∀ env, attributeBase (.Name x p1) "append" env (eval (.Name x p1) env) = eval (.Name x p1) env := by intro _; kernel_rfl)
    (hfew : ∀ env, ((backTo p3 (starEach [e] env)).all (fun x => !x.1) && (backToKw p3 (keywordEach [] env)).all (fun x => x.1.isSome) && decide ([e].length + ([] : List Keyword).length + (if ([] : List Keyword).isEmpty then 0 else 1) < 30)) = true := by intro _; kernel_rfl)
    (hline : (p2.endLine == p3.line) = true := by kernel_rfl) (hs : ∀ env, starEach [e] env = (false, eval e env) :: starEach [] env := by intro _; kernel_rfl) (hplain : ∀ env, (backTo p3 (starEach [] env)).any (·.1) = false := by intro _; kernel_rfl)
    (hsw : ∀ env, swapsWith (.Call (.Attribute (.Name x p1) "append" p2) [e] [] p3) none pos.line env = pure false := by intro _; kernel_rfl) :
    EvS M S (.Expr (.Call (.Attribute (.Name x p1) "append" p2) [e] [] p3) pos) fun ρ => (getV ρ i).bind fun l => l.asLst.bind fun xs => (f ρ).bind fun d => (W.need (xs.length < sizeLine)).bind fun _ => W.pure (.nx (ρ.set i (some (.lst (xs ++ [d]))))) := fun X G => by
  refine (ps_expr (pos := pos) (pe_bm (apos := p2) (cpos := p3) PySem.F.plainAttrs_list PySem.F.slot_list_append PySem.F.type_list_append mt_append (pe_var (pos := p1) (i := i) (by rw [G.N]; exact hN) (by rw [G.sc]; exact vis_of hv) hd hcd) (pa_cons (he X G) pa_nil (hs _)) (hbase _) (hfew _) hline (hs _) (hplain _)) (hsw _)).impW fun D σ H fc ⟨z0, H0, z, ρ, E, h⟩ => ?_
  obtain ⟨l, e1, k⟩ := getV_run h
  obtain ⟨xs, rfl, k⟩ := asLst_run k
  have hm := List.contains_iff_mem.mp hi
  obtain ⟨a, vs, e2, hβ, q, r⟩ := own_lst E hm e1
  refine ⟨_, e2, .inl ⟨rfl, vs, .of q⟩, z0, H0, z, ρ, E, (f ρ).mono (fun d k v z1 H1 st1 fc1 r1 => ?_) k⟩
  obtain ⟨hz, k⟩ := k
  refine ⟨a, vs, v, rfl, rfl, st1.keep _ _ hβ q trivial, by rw [r.length]; exact hz, fun _ => ?_⟩
  exact k _ z1 _ st1.le ((E.step st1).chg hm e1 e2 (.lst ((r.le st1.le).append (.cons r1 .nil))))
/-- x.extend(e), e a list -/
theorem s_extend (i : Nat) {x : Str} {p1 p2 p3 : Pos} (he : EvB M S e f) (hN : S.N[i]? = some x := by kernel_rfl) (hv : visC S.sc x = true := by kernel_rfl) (hi : S.mt.contains i = true := by kernel_rfl)
    (hd : (x == ("__debug__" : Str)) = false := by kernel_rfl) (hcd : (x == ("__classdict__" : Str)) = false := by kernel_rfl)
    (hbase : ∀ env, attributeBase (.Name x p1) "extend" env (eval (.Name x p1) env) = eval (.Name x p1) env := by intro _; kernel_rfl)
    (hfew : ∀ env, ((backTo p3 (starEach [e] env)).all (fun x => !x.1) && (backToKw p3 (keywordEach [] env)).all (fun x => x.1.isSome) && decide ([e].length + ([] : List Keyword).length + (if ([] : List Keyword).isEmpty then 0 else 1) < 30)) = true := by intro _; kernel_rfl)
    (hline : (p2.endLine == p3.line) = true := by kernel_rfl) (hs : ∀ env, starEach [e] env = (false, eval e env) :: starEach [] env := by intro _; kernel_rfl) (hplain : ∀ env, (backTo p3 (starEach [] env)).any (·.1) = false := by intro _; kernel_rfl)
    (hsw : ∀ env, swapsWith (.Call (.Attribute (.Name x p1) "extend" p2) [e] [] p3) none pos.line env = pure false := by intro _; kernel_rfl) :
    EvS M S (.Expr (.Call (.Attribute (.Name x p1) "extend" p2) [e] [] p3) pos) fun ρ => (getV ρ i).bind fun l => l.asLst.bind fun xs => (f ρ).bind fun d => d.asLst.bind fun ys => (W.need (xs.length + ys.length ≤ sizeLine)).bind fun _ => W.pure (.nx (ρ.set i (some (.lst (xs ++ ys))))) := fun X G => by
  refine (ps_expr (pos := pos) (pe_bm (apos := p2) (cpos := p3) PySem.F.plainAttrs_list PySem.F.slot_list_extend PySem.F.type_list_extend mt_extend (pe_var (pos := p1) (i := i) (by rw [G.N]; exact hN) (by rw [G.sc]; exact vis_of hv) hd hcd) (pa_cons (he X G) pa_nil (hs _)) (hbase _) (hfew _) hline (hs _) (hplain _)) (hsw _)).impW fun D σ H fc ⟨z0, H0, z, ρ, E, h⟩ => ?_
  obtain ⟨l, e1, k⟩ := getV_run h
  obtain ⟨xs, rfl, k⟩ := asLst_run k
  have hm := List.contains_iff_mem.mp hi
  obtain ⟨a, vs, e2, hβ, q, r⟩ := own_lst E hm e1
  refine ⟨_, e2, .inl ⟨rfl, vs, .of q⟩, z0, H0, z, ρ, E, (f ρ).mono (fun d k v z1 H1 st1 fc1 r1 => ?_) k⟩
  obtain ⟨ys, rfl, hz, k⟩ := asLst_run k
  obtain ⟨b, us, rfl, q2, r2⟩ := r1.lst st1.ok
  refine ⟨a, b, vs, us, rfl, rfl, st1.keep _ _ hβ q trivial, q2, by rw [r.length, r2.length]; exact hz, fun _ => ?_⟩
  exact k _ z1 _ st1.le ((E.step st1).chg hm e1 e2 (.lst ((r.le st1.le).append r2)))
/-- behind d[k] = v -/
def putD {κ : Type} [DecidableEq κ] (kvs : List (κ × D)) (k : κ) (v : D) : List (κ × D) :=
  if (kvs.any fun kv => decide (kv.1 = k)) = true then kvs.map (fun kv => if kv.1 = k then (kv.1, v) else kv) else kvs ++ [(k, v)]
theorem RpK.any {K : PySem.W.Frag} {mg : Str → Option Value} {z : Z} (k : Key) : ∀ {vs : List (Key × V)} {ds : List (Key × D)}, RpK K mg z vs ds → (vs.any fun kv => decide (kv.1 = k)) = (ds.any fun kv => decide (kv.1 = k))
  | _, _, .nil => rfl
  | _, _, .cons _ r => by rw [List.any_cons, List.any_cons, RpK.any k r]
theorem RpT.any {K : PySem.W.Frag} {mg : Str → Option Value} {z : Z} (k : List Key) : ∀ {vs : List (List Key × V)} {ds : List (List Key × D)}, RpT K mg z vs ds → (vs.any fun kv => decide (kv.1 = k)) = (ds.any fun kv => decide (kv.1 = k))
  | _, _, .nil => rfl
  | _, _, .cons _ r => by rw [List.any_cons, List.any_cons, RpT.any k r]
theorem RpK.map {K : PySem.W.Frag} {mg : Str → Option Value} {z : Z} {k : Key} {v : V} {d : D} (rv : Rp K mg z v d) : ∀ {vs : List (Key × V)} {ds : List (Key × D)}, RpK K mg z vs ds → RpK K mg z (vs.map fun kv => if kv.1 = k then (kv.1, v) else kv) (ds.map fun kv => if kv.1 = k then (kv.1, d) else kv)
  | _, _, .nil => .nil
  | _, _, .cons (k := k') h r => by
    rw [List.map_cons, List.map_cons]
    by_cases e : k' = k
    · rw [if_pos e, if_pos e]; exact .cons rv (RpK.map rv r)
    · rw [if_neg e, if_neg e]; exact .cons h (RpK.map rv r)
theorem RpT.map {K : PySem.W.Frag} {mg : Str → Option Value} {z : Z} {k : List Key} {v : V} {d : D} (rv : Rp K mg z v d) : ∀ {vs : List (List Key × V)} {ds : List (List Key × D)}, RpT K mg z vs ds → RpT K mg z (vs.map fun kv => if kv.1 = k then (kv.1, v) else kv) (ds.map fun kv => if kv.1 = k then (kv.1, d) else kv)
  | _, _, .nil => .nil
  | _, _, .cons (k := k') h r => by
    rw [List.map_cons, List.map_cons]
    by_cases e : k' = k
    · rw [if_pos e, if_pos e]; exact .cons rv (RpT.map rv r)
    · rw [if_neg e, if_neg e]; exact .cons h (RpT.map rv r)
theorem RpK.append {K : PySem.W.Frag} {mg : Str → Option Value} {z : Z} : ∀ {v w : List (Key × V)} {d e : List (Key × D)}, RpK K mg z v d → RpK K mg z w e → RpK K mg z (v ++ w) (d ++ e)
  | _, _, _, _, .nil, s => s
  | _, _, _, _, .cons h r, s => .cons h (RpK.append r s)
theorem RpT.append {K : PySem.W.Frag} {mg : Str → Option Value} {z : Z} : ∀ {v w : List (List Key × V)} {d e : List (List Key × D)}, RpT K mg z v d → RpT K mg z w e → RpT K mg z (v ++ w) (d ++ e)
  | _, _, _, _, .nil, s => s
  | _, _, _, _, .cons h r, s => .cons h (RpT.append r s)
theorem RpK.put {K : PySem.W.Frag} {mg : Str → Option Value} {z : Z} {k : Key} {v : V} {d : D} {vs : List (Key × V)} {ds : List (Key × D)} (r : RpK K mg z vs ds) (rv : Rp K mg z v d) : RpK K mg z (putK vs k v) (putD ds k d) := by
  unfold putK putD
  rw [r.any k]
  split
  · exact r.map rv
  · exact r.append (.cons rv .nil)
theorem RpT.put {K : PySem.W.Frag} {mg : Str → Option Value} {z : Z} {k : List Key} {v : V} {d : D} {vs : List (List Key × V)} {ds : List (List Key × D)} (r : RpT K mg z vs ds) (rv : Rp K mg z v d) : RpT K mg z (putK vs k v) (putD ds k d) := by
  unfold putK putD
  rw [r.any k]
  split
  · exact r.map rv
  · exact r.append (.cons rv .nil)
def D.put : D → D → D → W D
  | .dK kvs, k, v => (W.some? (asKey k)).bind fun k => (W.need (kvs.length < sizeLine)).bind fun _ => W.pure (.dK (putD kvs k v))
  | .dT kvs, .tup ks, v => (W.some? (asKeys ks)).bind fun k => (W.need (kvs.length < sizeLine)).bind fun _ => W.pure (.dT (putD kvs k v))
  | _, _, _ => W.fail
/-- d[k] = v -/
theorem s_dput (i : Nat) {x : Str} {p1 p2 : Pos} {k v : Expr} (hk : EvV M S k f) (hv : EvV M S v g) (hN : S.N[i]? = some x := by kernel_rfl) (hvis : visC S.sc x = true := by kernel_rfl) (hi : S.mt.contains i = true := by kernel_rfl)
    (hd : (x == ("__debug__" : Str)) = false := by kernel_rfl) (hcd : (x == ("__classdict__" : Str)) = false := by kernel_rfl)
    (hs : ∀ env, swapsWith v (some (.Subscript (.Name x p1) k p2)) pos.line env = pure false := by intro _; kernel_rfl) :
    EvS M S (.Assign [.Subscript (.Name x p1) k p2] v pos) fun ρ => (g ρ).bind fun d => (getV ρ i).bind fun c => (f ρ).bind fun kd => (c.put kd d).bind fun c' => W.pure (.nx (ρ.set i (some c'))) := fun X G => by
  refine (ps_dput (by have := G.room.un; omega) (pe_var (pos := p1) (i := i) (by rw [G.N]; exact hN) (by rw [G.sc]; exact vis_of hvis) hd hcd) (hk X G) (hv X G) (hs _)).impW fun Dn σ H fc ⟨z0, H0, z, ρ, E, h⟩ => ?_
  have hm := List.contains_iff_mem.mp hi
  refine ⟨z0, H0, z, ρ, E, (g ρ).mono (fun d kk v1 z1 H1 st1 fc1 r1 => ?_) h⟩
  obtain ⟨c, e1, kk⟩ := getV_run kk
  have E1 := E.step st1
  obtain ⟨cv, e2, a, o, rfl, f0, h0, hβ, q, cc⟩ := E1.own i _ hm e1
  refine ⟨_, e2, z0, H0, z1, ρ, E1, (f ρ).mono (fun kd kk v2 z2 H2 st2 fc2 r2 => ?_) kk⟩
  have E2 := E1.step st2
  have q2 := st2.keep _ _ hβ q cc.nt.nb
  have c2 := cc.le st2.le
  have r12 := r1.le st2.le
  have kk : (D.put c kd d).run (fun c' => ∀ σ z' H, Z.le z z' → EnvR G.m X.K X.mg z0 H0 z' H σ (ρ.set i (some c')) → Dn.nx σ H) := kk
  unfold D.put at kk
  split at kk
  · obtain ⟨key, e3, kk⟩ := some_run kk
    obtain ⟨hz, kk⟩ := kk
    cases c2 with
    | dK r =>
      refine ⟨a, _, rfl, by rw [asKey_eq r2 e3]; exact DPut.k q2 (by rw [r.length]; exact hz), fun _ => ?_⟩
      exact kk _ z2 _ (st1.le.trans st2.le) (E2.chg hm e1 e2 (.dK (r.put r12)))
  · obtain ⟨key, e3, kk⟩ := some_run kk
    obtain ⟨hz, kk⟩ := kk
    cases c2 with
    | dT r =>
      cases r2 with
      | tup hf rl =>
        have eb := st2.ok.sub _ _ hf
        rw [asKeys_eq rl e3] at eb
        refine ⟨a, _, rfl, DPut.t q2 eb (by rw [r.length]; exact hz), fun _ => ?_⟩
        exact kk _ z2 _ (st1.le.trans st2.le) (E2.chg hm e1 e2 (.dT (r.put r12)))
  · exact (show False from kk).elim
/-- {} -/
theorem f_newK : EvF M S (.Dict [] [] pos) fun _ => W.pure (.dK []) := fun X G => (pe_dnewK (X := X)).impW fun σ H Q fc ⟨z0, H0, z, ρ, E, h⟩ => fun p hp fc2 => kF_new h (Step.refl E.ok) fc2 hp (.dK .nil)
theorem f_newT : EvF M S (.Dict [] [] pos) fun _ => W.pure (.dT []) := fun X G => (pe_dnewT (X := X)).impW fun σ H Q fc ⟨z0, H0, z, ρ, E, h⟩ => fun p hp fc2 => kF_new h (Step.refl E.ok) fc2 hp (.dT .nil)
end
end PW

set_option Elab.async false
set_option linter.all false
set_option maxRecDepth 100000
set_option maxHeartbeats 1000000
namespace PW
open PySem PySem.Spec PyProof.Rows L2

/-! ### loops -/
def forW (t : Tgt) (b : Env → W Out) : List D → Env → W Out
  | [], ρ => W.pure (.nx ρ)
  | d :: ds, ρ => (t.set d ρ).bind fun ρ' => (b ρ').bind fun o => match o with
    | .nx ρ'' => forW t b ds ρ''
    | .ct ρ'' => forW t b ds ρ''
    | .bk ρ'' => W.pure (.nx ρ'')
    | .rt d => W.pure (.rt d)
def whileN (p : Env → W Bool) (b : Env → W Out) : Nat → Env → W Out
  | 0, _ => W.fail
  | n + 1, ρ => (p ρ).bind fun k => if k = true then (b ρ).bind fun o => match o with
    | .nx ρ' => whileN p b n ρ'
    | .ct ρ' => whileN p b n ρ'
    | .bk ρ' => W.pure (.nx ρ')
    | .rt d => W.pure (.rt d)
    else W.pure (.nx ρ)
def whileW (p : Env → W Bool) (b : Env → W Out) : Env → W Out := fun ρ => W.ex fun n => whileN p b n ρ
section
variable {M : Mo} {S : Fix} {st : Stmt} {body : List Stmt} {b : Env → W Out} {pos : Pos} {tg iter e c : Expr} {fi : Env → W (List D)} {t : Tgt} {p : Env → W Bool}
theorem s_for (hi : EvI M S tg iter fi) (hg : EvG M S tg t) (hb : EvSs M S body b) (hs : ∀ env x, foldedSetIterable iter env x = pure x := by intro _ _; kernel_rfl) : EvS M S (.For tg iter body [] pos) fun ρ => (fi ρ).bind fun ds => forW t b ds ρ := fun X G => by
  have core := ps_for (pos := pos) G.po G.calm (hi X G) (hg X G) (hb X G) (hs _)
  refine ⟨fun pins s σ H Dn I ⟨z0, H0, z, ρ, E, h⟩ => core.run pins s σ H Dn I ⟨z0, H0, z, ρ, E, (fi ρ).mono (fun ds k J z1 H1 st1 fc1 wk => ?_) h⟩⟩
  obtain ⟨⟨n, Gp, Y, wlk, hn, hG, hY⟩, hsz⟩ := wk
  refine for_it wlk (fun i σ H => ∃ ρ z', Z.le z1 z' ∧ EnvR G.m X.K X.mg z0 H0 z' H σ ρ ∧ (forW t b (ds.drop i) ρ).run (kS X.K X.mg G.m z0 H0 z Dn)) ⟨ρ, z1, Z.le.refl _, E.step st1, k⟩ (fun i σ H hi ⟨ρ, z', l, E, q⟩ => hG z' H l E.ok) (fun i x σ H H' hi ⟨ρ, z', l, E, q⟩ y => ?_) fun σ H ⟨ρ, z', l, E, q⟩ => ?_
  · obtain ⟨z'', d, ed, st, r⟩ := hY i H x H' z' l E.ok hi y
    rw [drop_get ed] at q
    have l2 := l.trans st.le
    refine ⟨z0, H0, z'', ρ, d, E.step st, r, (t.set d ρ).mono (fun ρ' k σ' E' w' m' => ⟨z0, H0, z'', ρ', E', (b ρ').mono (fun o k => ?_) k⟩) q⟩
    cases o with
    | nx ρ'' => exact fun σ z3 H l3 E3 => ⟨ρ'', z3, l2.trans l3, E3, k⟩
    | ct ρ'' => exact fun σ z3 H l3 E3 => ⟨ρ'', z3, l2.trans l3, E3, k⟩
    | bk ρ'' => exact fun σ z3 H l3 E3 => k σ z3 H ((st1.le.trans l2).trans l3) E3
    | rt d => exact k
  · rw [hn, List.drop_length] at q
    exact q σ z' H (st1.le.trans l) E
theorem s_while (hc : EvT M S c p) (hb : EvSs M S body b) : EvS M S (.While c body [] pos) (whileW p b) := fun X G => by
  have core := ps_while (pos := pos) G.po (hc X G) (hb X G)
  refine ⟨fun pins s σ H Dn I ⟨z0, H0, z, ρ, E, n, h⟩ => core.run pins s σ H Dn I ⟨fun m σ H => ∃ ρ z', Z.le z z' ∧ EnvR G.m X.K X.mg z0 H0 z' H σ ρ ∧ (whileN p b m ρ).run (kS X.K X.mg G.m z0 H0 z Dn), ⟨n, ρ, z, Z.le.refl _, E, h⟩, ?_⟩⟩
  rintro m σ H ⟨ρ, z', l, E, q⟩
  cases m with
  | zero => exact (show False from q).elim
  | succ m =>
    refine ⟨z0, H0, z', ρ, E, (p ρ).mono (fun k kk z1 H1 st1 fc1 => ?_) q⟩
    have l2 := l.trans st1.le
    cases k with
    | true =>
      dsimp only
      rw [if_pos rfl]
      refine ⟨fun σ H => ∃ ρ z', Z.le z z' ∧ EnvR G.m X.K X.mg z0 H0 z' H σ ρ ∧ (whileN p b m ρ).run (kS X.K X.mg G.m z0 H0 z Dn), fun σ' H' h => ⟨m, Nat.lt_succ_self m, h⟩, z0, H0, z1, ρ, E.step st1, (b ρ).mono (fun o k => ?_) kk⟩
      cases o with
      | nx ρ'' => exact fun σ z3 H l3 E3 => ⟨ρ'', z3, l2.trans l3, E3, k⟩
      | ct ρ'' => exact fun σ z3 H l3 E3 => ⟨ρ'', z3, l2.trans l3, E3, k⟩
      | bk ρ'' => exact fun σ z3 H l3 E3 => k σ z3 H (l2.trans l3) E3
      | rt d => exact k
    | false =>
      dsimp only
      rw [if_neg Bool.false_ne_true]
      exact kk σ z1 H1 l2 (E.step st1)
end

/-! ### x = [..] on one line -/
theorem kV_kF {K : PySem.W.Frag} {mg : Str → Option Value} {z : Z} {H : Hp} {Q : VK} {d : D} (k : kV K mg z H Q d) : kF K mg z H Q d := fun a o z' H' st fc hn hf hβ ho c => by
  have ok := st.ok.freeze hf hβ ho c.nt.nb
  refine k (.ref a) (z'.put a o) H' ⟨st.le.trans (Z.le_put hf), ok, st.keep, fun x o' h1 h2 h3 => ?_, fun x e => st.βn x e⟩ fc ((c.le (Z.le_put hf)).rp Z.put_at)
  show upd z'.f a o x = none
  rw [upd_ne (ne_of_fr h2 h3.nb hn)]
  exact st.new x o' h1 h2 h3
section
variable {M : Mo} {S : Fix} {tg iter elt tg1 iter1 : Expr} {ifs ifs1 : List Expr} {scope : Scope} {pos spos py : Pos} {fi fi1 : Env → W (List D)} {t t1 : Tgt} {p p1 : Env → W Bool} {f : Env → W D} {y : Str}
theorem s_setLc (i : Nat) (own : List (Str × Nat)) (hi : EvI M S tg iter fi) (hg : EvG M.nox (S.blk scope) tg t) (ht : EvTs M.nox (S.blk scope) ifs p) (he : EvV M.nox (S.blk scope) elt f) (hok : blkC S.N S.sc scope own = true := by kernel_rfl)
    (hsl : (t.slots.all fun j => (own.map (·.2)).contains j) = true := by kernel_rfl) (hN : S.N[i]? = some y := by kernel_rfl) (hy : S.sc.names.lookup y = some .local := by kernel_rfl) (hm : S.mt.contains i = false := by kernel_rfl) (hk : S.sc.kind = .function := by kernel_rfl)
    (hl : (py.line == pos.line) = true := by kernel_rfl) (ha : (scope.names.any fun (n, k) => n == y && (k == .local || k == .cell)) = false := by kernel_rfl) (hs : ∀ env x, foldedSetIterable iter env x = pure x := by intro _ _; kernel_rfl) :
    EvS M S (.Assign [.Name y py] (.ListComp elt [⟨tg, iter, ifs, 0⟩] scope pos) spos) fun ρ => (lcW fi t p f (own.map (·.2)) ρ).bind fun d => W.pure (.nx (ρ.set i (some d))) := fun X G => by
  refine (ps_setLc (i := i) (own := own) (g := tG X.K X.mg G.m t) (tt := tTs X.K X.mg G.m p) (te := tV X.K X.mg G.m f) G.calm (by rw [G.N]; exact G.nd) (by rw [G.N]; exact hN) (by rw [G.sc]; exact hy) (sw_true (by rw [G.sc]; exact hk) (by rw [G.sc]; exact hy) hl ha) (hi X G) (blkOk_by (by rw [G.N, G.sc]; exact hok))
    (fun s H C cl fp => hg _ (G.blk s H scope C cl fp)) (fun s H C cl fp => ht _ (G.blk s H scope C cl fp)) (fun s H C cl fp => he _ (G.blk s H scope C cl fp)) (hs _)).impW fun Dn σ H fc ⟨z0, H0, z, ρ, E, h⟩ => ?_
  have hm : i ∉ S.mt := fun m => by rw [List.contains_iff_mem.mpr m] at hm; cases hm
  have h : (lcW fi t p f (own.map (·.2)) ρ).run (fun d => kS X.K X.mg G.m z0 H0 z Dn (.nx (ρ.set i (some d)))) := h
  refine lc_read (Q := fun x H1 => Dn.nx (σ.set i (some x)) H1) _ (fun j hj => List.contains_iff_mem.mp (List.all_eq_true.mp hsl j hj)) ⟨z0, H0, z, ρ, E, W.mono _ (fun d k => kV_kF fun v z1 H1 st1 fc1 r1 => ?_) h⟩
  exact k _ z1 H1 st1.le ((E.step st1).set hm r1)
theorem s_setLcF (i : Nat) (own : List (Str × Nat)) (hi : EvI M S tg iter fi) (hg : EvG M.nox (S.blk scope) tg t) (ht : EvTs M.nox (S.blk scope) ifs p) (he : EvV M.nox (S.blk scope) elt f) (hok : blkC S.N S.sc scope own = true := by kernel_rfl)
    (hsl : (t.slots.all fun j => (own.map (·.2)).contains j) = true := by kernel_rfl) (hN : S.N[i]? = some y := by kernel_rfl) (hy : S.sc.names.lookup y = some .local := by kernel_rfl) (hm : S.mt.contains i = true := by kernel_rfl) (hk : S.sc.kind = .function := by kernel_rfl)
    (hl : (py.line == pos.line) = true := by kernel_rfl) (ha : (scope.names.any fun (n, k) => n == y && (k == .local || k == .cell)) = false := by kernel_rfl) (hs : ∀ env x, foldedSetIterable iter env x = pure x := by intro _ _; kernel_rfl) :
    EvS M S (.Assign [.Name y py] (.ListComp elt [⟨tg, iter, ifs, 0⟩] scope pos) spos) fun ρ => (lcW fi t p f (own.map (·.2)) ρ).bind fun d => W.pure (.nx (ρ.set i (some d))) := fun X G => by
  refine (ps_setLc (i := i) (own := own) (g := tG X.K X.mg G.m t) (tt := tTs X.K X.mg G.m p) (te := tV X.K X.mg G.m f) G.calm (by rw [G.N]; exact G.nd) (by rw [G.N]; exact hN) (by rw [G.sc]; exact hy) (sw_true (by rw [G.sc]; exact hk) (by rw [G.sc]; exact hy) hl ha) (hi X G) (blkOk_by (by rw [G.N, G.sc]; exact hok))
    (fun s H C cl fp => hg _ (G.blk s H scope C cl fp)) (fun s H C cl fp => ht _ (G.blk s H scope C cl fp)) (fun s H C cl fp => he _ (G.blk s H scope C cl fp)) (hs _)).impW fun Dn σ H fc ⟨z0, H0, z, ρ, E, h⟩ => ?_
  have h : (lcW fi t p f (own.map (·.2)) ρ).run (fun d => kS X.K X.mg G.m z0 H0 z Dn (.nx (ρ.set i (some d)))) := h
  refine lc_read (Q := fun x H1 => Dn.nx (σ.set i (some x)) H1) _ (fun j hj => List.contains_iff_mem.mp (List.all_eq_true.mp hsl j hj)) ⟨z0, H0, z, ρ, E, W.mono _ (fun d k a o z1 H1 st1 fc1 hn hf hβ ho c => ?_) h⟩
  exact k _ z1 H1 st1.le (E.setOwn st1 (List.contains_iff_mem.mp hm) hn hf hβ ho c)
theorem s_setLc2 (i : Nat) (own : List (Str × Nat)) (vs1 : List Nat) (hi : EvI M S tg iter fi) (hg : EvG M.nox (S.blk scope) tg t) (ht : EvTs M.nox (S.blk scope) ifs p) (hi1 : EvI M.nox (S.blk scope) tg1 iter1 fi1) (hg1 : EvG M.nox (S.blk scope) tg1 t1) (ht1 : EvTs M.nox (S.blk scope) ifs1 p1) (he : EvV M.nox (S.blk scope) elt f) (hok : blkC S.N S.sc scope own = true := by kernel_rfl)
    (hsl : (t.slots.all fun j => (own.map (·.2)).contains j) = true := by kernel_rfl) (hsl1 : (t1.slots.all fun j => vs1.contains j) = true := by kernel_rfl) (hv1 : (vs1.all fun j => (own.map (·.2)).contains j) = true := by kernel_rfl)
    (hN : S.N[i]? = some y := by kernel_rfl) (hy : S.sc.names.lookup y = some .local := by kernel_rfl) (hm : S.mt.contains i = false := by kernel_rfl) (hk : S.sc.kind = .function := by kernel_rfl)
    (hl : (py.line == pos.line) = true := by kernel_rfl) (ha : (scope.names.any fun (n, k) => n == y && (k == .local || k == .cell)) = false := by kernel_rfl) (hs : ∀ env x, foldedSetIterable iter env x = pure x := by intro _ _; kernel_rfl) (hs1 : ∀ env x, foldedSetIterable iter1 env x = pure x := by intro _ _; kernel_rfl) :
    EvS M S (.Assign [.Name y py] (.ListComp elt [⟨tg, iter, ifs, 0⟩, ⟨tg1, iter1, ifs1, 0⟩] scope pos) spos) fun ρ => (lc2W fi t p fi1 vs1 t1 p1 f (own.map (·.2)) ρ).bind fun d => W.pure (.nx (ρ.set i (some d))) := fun X G => by
  have hsub1 : ∀ j ∈ t1.slots, j ∈ vs1 := fun j hj => List.contains_iff_mem.mp (List.all_eq_true.mp hsl1 j hj)
  have hsubv : ∀ j ∈ vs1, j ∈ own.map (·.2) := fun j hj => List.contains_iff_mem.mp (List.all_eq_true.mp hv1 j hj)
  refine (ps_setLc2 (i := i) (own := own) (vs1 := vs1) (g := tG X.K X.mg G.m t) (tt := tTs X.K X.mg G.m p) (wi1 := tI X.K X.mg G.m fi1) (g1 := tG X.K X.mg G.m t1) (tt1 := tTs X.K X.mg G.m p1) (te := tV X.K X.mg G.m f) G.calm (by rw [G.N]; exact G.nd) (by rw [G.N]; exact hN) (by rw [G.sc]; exact hy)
    (sw_true (by rw [G.sc]; exact hk) (by rw [G.sc]; exact hy) hl ha) (hi X G) (blkOk_by (by rw [G.N, G.sc]; exact hok)) hsubv
    (fun s H C cl fp => hg _ (G.blk s H scope C cl fp)) (fun s H C cl fp => ht _ (G.blk s H scope C cl fp)) (fun s H C cl fp => hi1 _ (G.blk s H scope C cl fp)) (fun s H C cl fp => hg1 _ (G.blk s H scope C cl fp)) (fun s H C cl fp => ht1 _ (G.blk s H scope C cl fp)) (fun s H C cl fp => he _ (G.blk s H scope C cl fp)) (hs _) hs1).impW fun Dn σ H fc ⟨z0, H0, z, ρ, E, h⟩ => ?_
  have hm : i ∉ S.mt := fun m => by rw [List.contains_iff_mem.mpr m] at hm; cases hm
  have h : (lc2W fi t p fi1 vs1 t1 p1 f (own.map (·.2)) ρ).run (fun d => kS X.K X.mg G.m z0 H0 z Dn (.nx (ρ.set i (some d)))) := h
  refine lc2_read (Q := fun x H1 => Dn.nx (σ.set i (some x)) H1) _ _ (fun j hj => List.contains_iff_mem.mp (List.all_eq_true.mp hsl j hj)) hsub1 hsubv ⟨z0, H0, z, ρ, E, W.mono _ (fun d k => kV_kF fun v z1 H1 st1 fc1 r1 => ?_) h⟩
  exact k _ z1 H1 st1.le ((E.step st1).set hm r1)
end

/-! ### {k: v for t in ds if p} -/
def dcompW (t : Tgt) (p : Env → W Bool) (fk fv : Env → W D) : List D → Env → List (Key × D) → W (List (Key × D))
  | [], _, acc => W.pure acc
  | d :: ds, ρ, acc => (t.set d ρ).bind fun ρ' => (p ρ').bind fun b => if b = true then (fk ρ').bind fun k => (fv ρ').bind fun v => (W.some? (asKey k)).bind fun k => (W.need (acc.length < sizeLine)).bind fun _ => dcompW t p fk fv ds ρ (putD acc k v) else dcompW t p fk fv ds ρ acc
structure DSt (mt : Mt) (K : PySem.W.Frag) (mg : Str → Option Value) (z0 : Z) (H0 : Hp) (zb : Z) (Hb : Hp) (z1 : Z) (Dl : Addr) (σ : Sg) (ρ : Env) (acc : List (Key × D)) (z' : Z) (H' : Hp) : Prop where
  env : EnvR mt K mg z0 H0 z' H' σ ρ
  le : Z.le z1 z'
  st : Step K zb Hb z' H'
  f0 : z'.f Dl = none
  nβ : ¬ z'.β Dl
  own : ∀ i d, i ∈ mt → ρ[i]? = some (some d) → σ[i]? ≠ some (some (.ref Dl))
  h0 : fr H0 Dl
  hb : fr Hb Dl
  at_ : ∃ av, H' Dl = some (.dK av) ∧ RpK K mg z' av acc
section
variable {K : PySem.W.Frag} {mg : Str → Option Value} {z z' z0 z1 zb : Z} {H H' H0 Hb : Hp} {Dl : Addr} {mt : Mt} {σ : Sg} {ρ : Env} {acc : List (Key × D)}
theorem DSt.step {z'' : Z} {H'' : Hp} (c : DSt mt K mg z0 H0 zb Hb z1 Dl σ ρ acc z' H') (s : Step K z' H' z'' H'') : DSt mt K mg z0 H0 zb Hb z1 Dl σ ρ acc z'' H'' := by
  obtain ⟨av, q, r⟩ := c.at_
  refine ⟨c.env.step s, c.le.trans s.le, c.st.trans s, s.new _ _ c.f0 q trivial, fun e => ?_, c.own, c.h0, c.hb, av, s.keep _ _ c.nβ q trivial, r.le s.le⟩
  rcases s.βn _ e with e | e
  · exact c.nβ e
  · exact e _ q trivial
theorem DSt.push {v : V} {d : D} (k : Key) (c : DSt mt K mg z0 H0 zb Hb z1 Dl σ ρ acc z' H') (r : Rp K mg z' v d) : ∃ av, H' Dl = some (.dK av) ∧ av.length = acc.length ∧ DSt mt K mg z0 H0 zb Hb z1 Dl σ ρ (putD acc k d) z' (upd H' Dl (.dK (putK av k v))) := by
  obtain ⟨av, q, ra⟩ := c.at_
  exact ⟨av, q, ra.length, c.env.other c.h0 c.f0 c.nβ c.own, c.le, c.st.other c.hb c.f0 c.nβ, c.f0, c.nβ, c.own, c.h0, c.hb, _, upd_same, ra.put r⟩
theorem DSt.begin (E : EnvR mt K mg z0 H0 zb Hb σ ρ) (st : Step K zb Hb z1 H) (hd : H Dl = none) : DSt mt K mg z0 H0 zb Hb z1 Dl σ ρ [] z1 (upd H Dl (.dK [])) := by
  have E1 := E.step st
  exact ⟨E1.step (Step.fresh st.ok hd), Z.le.refl _, st.trans (Step.fresh st.ok hd), st.ok.free hd, st.ok.nβ hd, E1.nown hd, E1.st.was hd, st.was hd, [], upd_same, .nil⟩
theorem DSt.fin {Q : VK} (c : DSt mt K mg z0 H0 zb Hb z1 Dl σ ρ acc z' H') (fc : Fct K H') (k : kF K mg zb Hb Q (.dK acc)) : Q (.ref Dl) H' := by
  obtain ⟨av, q, r⟩ := c.at_
  exact k Dl _ z' H' c.st fc c.hb c.f0 c.nβ q (.dK r)
end
section
variable {M : Mo} {S : Fix} {tg iter kx vx : Expr} {ifs : List Expr} {scope : Scope} {pos : Pos} {fi : Env → W (List D)} {t : Tgt} {p : Env → W Bool} {fk fv : Env → W D}
def dcW (fi : Env → W (List D)) (t : Tgt) (p : Env → W Bool) (fk fv : Env → W D) (vs : List Nat) : Env → W D := fun ρ => (fi ρ).bind fun ds => (dcompW t p fk fv ds (wipeE ρ vs) []).bind fun r => W.pure (.dK r)
theorem dc_read {K : PySem.W.Frag} {mg : Str → Option Value} {mt : Mt} (vs : List Nat) (hsub : ∀ j ∈ t.slots, j ∈ vs) {σ : Sg} {H : Hp} {Q : VK} (hh : tFr K mg mt (dcW fi t p fk fv vs) σ H Q) :
    tDc (tI K mg mt fi) (tG K mg mt t) (tTs K mg mt p) (tV K mg mt fk) (tV K mg mt fv) vs σ H (fun v H' => Fct K H' → Q v H') := by
  obtain ⟨z0, H0, z, ρ, E, h⟩ := hh
  refine ⟨z0, H0, z, ρ, E, (fi ρ).mono (fun ds k J z1 H1 st1 fc1 wk => fun Dl hDl => ?_) h⟩
  obtain ⟨⟨n, Gp, Y, wlk, hn, hG, hY⟩, hsz⟩ := wk
  refine ⟨fun i m H' => m = n - i ∧ i ≤ n ∧ ∃ acc z', DSt mt K mg z0 H0 z H z1 Dl (wipe σ vs) (wipeE ρ vs) acc z' H' ∧
    (dcompW t p fk fv (ds.drop i) (wipeE ρ vs) acc).run fun r => kF K mg z H Q (.dK r), ⟨n, by simp, Nat.zero_le _, [], z1, DSt.begin (E.wipe vs) st1 hDl, k⟩, ?_⟩
  rintro i m H' ⟨rfl, hi', acc, z', c, q⟩
  have hGH := hG z' H' c.le c.st.ok
  by_cases hlt : i < n
  · refine .inr ⟨wlk.goes i H' hlt hGH, fun H' => ∃ acc z', DSt mt K mg z0 H0 z H z1 Dl (wipe σ vs) (wipeE ρ vs) acc z' H' ∧ (dcompW t p fk fv (ds.drop (i + 1)) (wipeE ρ vs) acc).run fun r => kF K mg z H Q (.dK r),
      fun H' hx => ⟨n - (i + 1), by omega, rfl, hlt, hx⟩, fun x H'' y => ?_⟩
    obtain ⟨z'', d, ed, st, r⟩ := hY i H' x H'' z' c.le c.st.ok hlt (wlk.yields i H' x H'' hlt hGH y)
    rw [drop_get ed] at q
    have c2 := c.step st
    refine ⟨z0, H0, z'', _, d, c2.env, r, (t.set d _).mono (fun ρ' k σ' E' w' m' => ⟨(w' vs hsub).trans wipe_wipe, z0, H0, z'', ρ', E', (p ρ').mono (fun b k z3 H3 st3 fc3 => ?_) k⟩) q⟩
    cases b with
    | false =>
      rw [if_neg Bool.false_ne_true]
      exact ⟨acc, z3, c2.step st3, k⟩
    | true =>
      rw [if_pos rfl]
      refine ⟨z0, H0, z3, ρ', E'.step st3, (fk ρ').mono (fun y k v z4 H4 st4 fc4 r4 => ?_) k⟩
      refine ⟨z0, H0, z4, ρ', (E'.step st3).step st4, (fv ρ').mono (fun y2 k v2 z5 H5 st5 fc5 r5 => ?_) k⟩
      obtain ⟨key, e3, hz, k⟩ := some_run k
      obtain ⟨av, e1, e2, c3⟩ := (((c2.step st3).step st4).step st5).push key r5
      exact ⟨av, key, asKey_eq r4 e3, e1, by rw [e2]; exact hz, _, z5, c3, k⟩
  · have e : i = n := by omega
    subst e
    rw [hn, List.drop_length] at q
    exact .inl ⟨wlk.stops H' hGH, fun fc' => c.fin fc' q⟩
theorem f_dc (own : List (Str × Nat)) (hi : EvI M S tg iter fi) (hg : EvG M.nox (S.blk scope) tg t) (ht : EvTs M.nox (S.blk scope) ifs p) (hk : EvV M.nox (S.blk scope) kx fk) (hv : EvV M.nox (S.blk scope) vx fv) (hok : blkC S.N S.sc scope own = true := by kernel_rfl)
    (hsl : (t.slots.all fun j => (own.map (·.2)).contains j) = true := by kernel_rfl) (hs : ∀ env x, foldedSetIterable iter env x = pure x := by intro _ _; kernel_rfl) :
    EvF M S (.DictComp kx vx [⟨tg, iter, ifs, 0⟩] scope pos) (dcW fi t p fk fv (own.map (·.2))) := fun X G =>
  (pe_dc (own := own) (g := tG X.K X.mg G.m t) (tt := tTs X.K X.mg G.m p) (tk := tV X.K X.mg G.m fk) (tv := tV X.K X.mg G.m fv) G.calm (by rw [G.N]; exact G.nd) (hi X G) (blkOk_by (by rw [G.N, G.sc]; exact hok)) (fun s H C cl fp => hg _ (G.blk s H scope C cl fp)) (fun s H C cl fp => ht _ (G.blk s H scope C cl fp))
    (fun s H C cl fp => hk _ (G.blk s H scope C cl fp)) (fun s H C cl fp => hv _ (G.blk s H scope C cl fp)) (hs _)).impW fun σ H Q fc h => dc_read _ (fun j hj => List.contains_iff_mem.mp (List.all_eq_true.mp hsl j hj)) h
end

/-! ### a def's promise by its body -/
def startE (n : Nat) (ds : List D) : Env := ds.map some ++ List.replicate (n - ds.length) none
def Out.fin : Out → W D
  | .rt d => W.pure d
  | .nx _ => W.pure .non
  | _ => W.fail
/-- what a def with np parameters and n slots does -/
def defW (np n : Nat) (w : Env → W Out) : List D → W D := fun ds => (W.need (ds.length = np)).bind fun _ => (w (startE n ds)).bind Out.fin
theorem _root_.L2.PSs.impW {X : Cx} {st : List Stmt} {t t' : TS} (h : PSs X st t) (hi : ∀ D σ H, Fct X.K H → t' D σ H → t (D.f X.K) σ H) : PSs X st t' :=
  ⟨fun pins s σ H D I hw => thn (h.run pins s σ H _ I (hi D σ H (fct_of I) hw)) fun _ _ q => sp_fct q⟩
section
variable {K : PySem.W.Frag} {mg : Str → Option Value} {z : Z} {H : Hp} {mt : Mt}
theorem start_get {N : List Str} {vs : List V} {ds : List D} (r : RpL K mg z vs ds) {i : Nat} {d : D} (e : (startE N.length ds)[i]? = some (some d)) : i < ds.length ∧ ∃ v, (L2.start N vs)[i]? = some (some v) ∧ Rp K mg z v d := by
  unfold startE at e
  by_cases hi : i < ds.length
  · rw [List.getElem?_append_left (by simpa using hi), List.getElem?_map] at e
    cases q : ds[i]? with
    | none => rw [q] at e; cases e
    | some x =>
      rw [q] at e
      cases e
      obtain ⟨v, e2, r2⟩ := r.get q
      refine ⟨hi, v, ?_, r2⟩
      unfold L2.start
      rw [List.getElem?_append_left (by rw [List.length_map, r.length]; exact hi), List.getElem?_map, e2]
      rfl
  · rw [List.getElem?_append_right (by simpa using hi), List.getElem?_replicate] at e
    split at e <;> cases e
theorem env_start {N : List Str} {vs : List V} {ds : List D} (ok : ZOk K z H) (hb : mt.ok z H) (r : RpL K mg z vs ds) (hl : ds.length ≤ N.length) (hmt : ∀ i ∈ mt.l, ds.length ≤ i) : EnvR mt K mg z H z H (L2.start N vs) (startE N.length ds) := by
  refine ⟨Step.refl ok, hb, ?_, fun i d hi e => (start_get r e).2, fun i d hi e => ?_, fun i j d e hi hj hij q q' => ?_⟩
  · unfold startE L2.start
    rw [List.length_append, List.length_append, List.length_map, List.length_map, List.length_replicate, List.length_replicate, r.length]
  · exact absurd (start_get r e).1 (by have := hmt i hi; omega)
  · exact absurd (start_get r q).1 (by have := hmt i hi; omega)
end
/-- the table and the module's names, of a frame -/
structure Mod0 (M : Mo) (P : Program) (w : World) (K : PySem.W.Frag) (mg : Str → Option Value) (base : Heap) (tb : List (Addr × Str)) : Prop where
  tab : TabOk P w K mg base tb M.lv M.T
  free : ∀ x ∈ M.free, mg x = none
  con : ∀ x d, (x, d) ∈ M.con → ∃ v u, mg x = some u ∧ RelV v u ∧ ∀ z, Rp K mg z v d
  xc : ∀ p ∈ M.xc, XcOk P w K mg base p.1 p.2
  ltab : M.lam = true → 2 ≤ M.lv ∧ TabOk P w K mg base tb (M.lv - 2) M.T
  hd : ∀ x ∈ M.hd, HeardAt K mg x.1 x.2
def good_of {M : Mo} {P : Program} {w : World} {K : PySem.W.Frag} {mg : Str → Option Value} {base : Heap} {tb : List (Addr × Str)} (m : Mod0 M P w K mg base tb) {N : List Str} {scope : Scope} {mt : List Nat} (nd : N.Nodup) {qual : Str} {f : Addr} {cdv : Value} {A : Around} {outer : List PySem.Env} {s : Shared} {H : Hp} {E : XK}
    (hr : Room M.lv (A.deeper (envOfC qual scope s.heap.objs.size f cdv))) (hlam : M.lam = true → LamAt K mg base cdv (qual ++ ".<locals>.") tb) (hgd : M.gd = true → A.guards = some []) : Good M ⟨N, scope, fun _ => true, mt⟩ (cxOf (L2.CX P w) P w K mg base N qual scope f cdv A outer s H E) :=
  ⟨fun z H => z.tb = tb ∧ ∀ cls d H', wx K mg M.eps z H cls d H' → E cls d H', rfl, nd, rfl, rfl, rfl, fun z H h => (takes_of rfl rfl rfl rfl).imp fun _ _ _ _ q => h.2 _ _ _ q, passes_of rfl, tb, fun _ _ h => h.1, m.tab, hr, m.free, m.con, m.xc, hlam, m.ltab, fun x h => m.hd x h, hgd⟩
/-- where nothing may leave -/
def good0 {M : Mo} {P : Program} {w : World} {K : PySem.W.Frag} {mg : Str → Option Value} {base : Heap} {tb : List (Addr × Str)} (m : Mod0 M P w K mg base tb) (he : M.eps = eps0) {N : List Str} {scope : Scope} {mt : List Nat} (nd : N.Nodup) {qual : Str} {f : Addr} {cdv : Value} {A : Around} {outer : List PySem.Env} {s : Shared} {H : Hp} {E : XK}
    (hr : Room M.lv (A.deeper (envOfC qual scope s.heap.objs.size f cdv))) (hlam : M.lam = true → LamAt K mg base cdv (qual ++ ".<locals>.") tb) (hgd : M.gd = true → A.guards = some []) : Good M ⟨N, scope, fun _ => true, mt⟩ (cxOf CX0 P w K mg base N qual scope f cdv A outer s H E).nox :=
  ⟨fun z _ => z.tb = tb, rfl, nd, rfl, rfl, rfl, fun _ _ _ => takesF fun h => by rw [he] at h; exact wx0 h, PassesOwn.never, tb, fun _ _ h => h, m.tab, hr, m.free, m.con, m.xc, hlam, m.ltab, fun x h => m.hd x h, hgd⟩
theorem body_run {M : Mo} {N : List Str} {scope : Scope} {mt : List Nat} {X : Cx} {body : List Stmt} {b : Env → W Out} {vs : List V} {H : Hp} {Q : VK} {ds : List D} {z : Z} (G : Good M ⟨N, scope, fun _ => true, mt⟩ X) (hb : EvSs M ⟨N, scope, fun _ => true, mt⟩ body b) (ok : ZOk X.K z H) (hok : G.ok z H) (r : RpL X.K X.mg z vs ds)
    (hl : ds.length ≤ N.length) (hmt : ∀ i ∈ mt, ds.length ≤ i) (h : ((b (startE N.length ds)).bind Out.fin).run (kV X.K X.mg z H Q)) : ∃ t, PSs X body t ∧ t { nx := fun _ H' => Q .non H', rt := Q } (L2.start N vs) H := by
  refine ⟨fun Dn σ H => tS X.K X.mg G.m b (Dn.f X.K) σ H, ⟨fun pins s σ H Dn I hw => thn ((hb X G).run pins s σ H _ I hw) fun _ _ q => sp_fct q⟩, z, H, z, _, env_start (mt := G.m) ok hok r hl hmt, (b _).mono (fun o k => ?_) h⟩
  cases o with
  | nx ρ => exact fun σ z' H' l E fc => k .non z' H' E.st fc .non
  | rt d => exact fun v z' H' st fc r _ => k v z' H' st fc r
  | bk ρ => exact (show False from k).elim
  | ct ρ => exact (show False from k).elim
section
variable {P : Program} {w : World} {K : PySem.W.Frag} {mg : Str → Option Value} {base : Heap} {x qual : Str} {params : Arguments} {body : List Stmt} {scope : Scope} {f : Addr} {fd : FuncData} {N ps : List Str} {mt : List Nat}
theorem cx_new : CXNew (L2.CX P w) := fun outer s H h2 p rest E e s' k hp hn ⟨a, B, H', cls, d, e1, fl, hok, ub, na, os, ag, hE⟩ => by
  have nep : ∀ {b : Addr} {o : Obj}, s.heap.get? b = some o → b ≠ p := fun {b o} z => Nat.ne_of_lt (Nat.lt_of_lt_of_le (Heap.lt_size z) hp)
  exact ⟨a, B, H', cls, d, e1, fl, hok, {
    keep := fun b o z n hf => ub.keep b o (k b o z) (by rw [upd_ne (nep z)]; exact n) hf
    slot := fun b o z hf => ub.slot b o (k b o z) hf
    free := fun b o z n => ub.free b o (k b o z) (by rw [upd_ne (nep z)]; exact n)
    there := fun b o z hf => ub.there b o (k b o z) hf
    tups := fun b xs z => ub.tups b xs (by rw [upd_ne (ne_of_none z hn)]; exact z)
    frzs := fun b o xs z => ub.frzs b o xs (by rw [upd_ne (ne_of_none z hn)]; exact z)
    tbls := fun b ps z => ub.tbls b ps (by rw [upd_ne (ne_of_none z hn)]; exact z) }, na, os, ag, hE⟩
/-- a def without defaults -/
theorem fnr_def {tb : List (Addr × Str)} {M : Eps → Mo} {lv : Nat} {b : Eps → Env → W Out} (F : FunD K x qual params body scope [] [] f fd) (hM : ∀ ε, (M ε).eps = ε) (hlv : ∀ ε, (M ε).lv = lv) (m : ∀ ε, Mod0 (M ε) P w K mg base tb) (hb : ∀ ε, EvSs (M ε) ⟨N, scope, fun _ => true, mt⟩ body (b ε)) (hS : C8.scC N ps scope = true)
    (hbind : ∀ (kV doc pm : Value) (an : Option Addr) (cdv ct : Value) (us : List Value), us.length = ps.length → bindArgs (PySem.W.fnOf x qual params body scope .none kV doc pm an cdv ct) ⟨us, []⟩ = pure (ps.zip us)) (hmt : (mt.all fun i => decide (ps.length ≤ i)) = true) (hN : ps.length ≤ N.length) (hlam : ∀ ε, (M ε).lam = true → LamAt K mg base fd.code (qual ++ ".<locals>.") tb := by intro _ h; exact Bool.noConfusion h) (hgd : ∀ ε, (M ε).gd = true → False := by intro _ h; exact Bool.noConfusion h) :
    FnR P w K mg base (L2.CX P w) (lv + 1) f (spW K mg tb fun ε => defW ps.length N.length (b ε)) := by
  have S := C8.fnScope_by hS
  have core : FnOk P w K mg base (L2.CX P w) (lv + 1) f fd ps (spW K mg tb fun ε => defW ps.length N.length (b ε)) := by
    obtain ⟨oc, od, dV, kV, doc, pm, an, cdv, ct, osl, rfl, lk, hcd, _, _⟩ := F.ex
    refine fn_of (CX := L2.CX P w) (k := lv) (sp := spW K mg tb fun ε => defW ps.length N.length (b ε)) lk hcd S (fun vs H Q E ⟨ε, z, ds, ht, ok, r, h, _⟩ => by rw [r.length]; exact h.1) fun A outer s H vs Q E hr ⟨ε, z, ds, ht, ok, r, h, hx⟩ => ?_
    obtain ⟨hl, h⟩ := h
    obtain ⟨t, h1, h2⟩ := body_run (X := cxOf (L2.CX P w) P w K mg base N qual scope f cdv A outer s H E) (good_of (mt := mt) (m ε) S.nd (by rw [hlv]; exact hr) (hlam ε) (fun h => (hgd ε h).elim)) (hb ε) ok ⟨ht, by intro cls d H' q; rw [hM] at q; exact hx _ _ _ q⟩ r (by rw [hl]; exact hN) (fun i hi => by rw [hl]; exact of_decide_eq_true (List.all_eq_true.mp hmt i hi)) h
    exact ⟨t, h1, h2⟩
  have raw := core.raw (F.bindsN hbind) .nil
  exact raw.imp fun vs H Q E h => by rw [List.append_nil]; exact h
/-- what a def f(a, *r) does -/
def defVW (nmax n : Nat) (b : Env → W Out) : List D → W D
  | d :: ds => (W.need (ds.length ≤ nmax)).bind fun _ => (b (startE n [d, .tup ds])).bind Out.fin
  | [] => W.fail
theorem fnr_defV {tb : List (Addr × Str)} {M : Eps → Mo} {lv : Nat} {b : Eps → Env → W Out} {nmax : Nat} {pa pv : Str} (F : FunD K x qual params body scope [] [] f fd) (hM : ∀ ε, (M ε).eps = ε) (hlv : ∀ ε, (M ε).lv = lv) (m : ∀ ε, Mod0 (M ε) P w K mg base tb) (hb : ∀ ε, EvSs (M ε) ⟨N, scope, fun _ => true, mt⟩ body (b ε)) (hS : C8.scC N [pa, pv] scope = true) (hz : nmax ≤ sizeLine)
    (hbind : ∀ (kV doc pm : Value) (an : Option Addr) (cdv ct : Value), ∀ (u : Value) (rest : List Value), rest.length ≤ nmax → bindArgs (PySem.W.fnOf x qual params body scope .none kV doc pm an cdv ct) ⟨u :: rest, []⟩ = (newTuple rest >>= fun t => pure [(pa, u), (pv, t)])) (hmt : (mt.all fun i => decide (2 ≤ i)) = true) (hN : 2 ≤ N.length) (hlam : ∀ ε, (M ε).lam = true → LamAt K mg base fd.code (qual ++ ".<locals>.") tb := by intro _ h; exact Bool.noConfusion h) (hgd : ∀ ε, (M ε).gd = true → False := by intro _ h; exact Bool.noConfusion h) :
    FnR P w K mg base (L2.CX P w) (lv + 1) f (spW K mg tb fun ε => defVW nmax N.length (b ε)) := by
  have S := C8.fnScope_by hS
  obtain ⟨oc, od, dV, kV', doc, pm, an, cdv, ct, osl, rfl, lk, hcd, hD, _⟩ := F.ex
  obtain rfl : dV = .none := by
    rcases hD with ⟨_, rfl⟩ | ⟨e, _⟩
    · rfl
    · exact absurd rfl e
  have core := fn_ofV (P := P) (w := w) (mg := mg) (base := base) (CX := L2.CX P w) (k := lv) (nmax := nmax) (N := N) (pa := pa) (pv := pv) (sp := fun vs H Q E => ∃ ε z ds, z.tb = tb ∧ ZOk K z H ∧ RpL K mg z vs ds ∧ ds.length = 2 ∧ ((b ε (startE N.length ds)).bind Out.fin).run (kV K mg z H Q) ∧ ∀ cls d H', wx K mg ε z H cls d H' → E cls d H') lk hcd S hz (hbind _ _ _ _ _ _) cx_new
    fun A outer s H vs Q E hr ⟨ε, z, ds, ht, ok, r, hl, h, hx⟩ => by
      obtain ⟨t, h1, h2⟩ := body_run (X := cxOf (L2.CX P w) P w K mg base N qual scope f cdv A outer s H E) (good_of (mt := mt) (m ε) S.nd (by rw [hlv]; exact hr) (hlam ε) (fun h => (hgd ε h).elim)) (hb ε) ok ⟨ht, by intro cls d H' q; rw [hM] at q; exact hx _ _ _ q⟩ r (by rw [hl]; exact hN) (fun i hi => by rw [hl]; exact of_decide_eq_true (List.all_eq_true.mp hmt i hi)) h
      exact ⟨t, h1, h2⟩
  refine core.imp fun vs H Q E ⟨ε, z, ds, ht, ok, r, h, hx⟩ => ?_
  cases r with
  | nil => exact (show False from h).elim
  | @cons v vs d ds r1 r2 =>
    obtain ⟨hl, h⟩ := h
    refine ⟨_, _, rfl, by rw [r2.length]; exact hl, fun p hp => ?_⟩
    have st := Step.put (o := .tup vs) ok hp trivial
    exact ⟨ε, _, [d, .tup ds], st.le.tb.trans ht, st.ok, .cons (r1.le st.le) (.cons (.tup Z.put_at (r2.le st.le)) .nil), rfl, ((b ε _).bind Out.fin).mono (fun d k v z' H' st' fc r => k v z' H' (st.trans st') fc r) h, fun cls d H' q => hx _ _ _ (wx_step st q)⟩
end
end PW

set_option Elab.async false
set_option linter.all false
set_option maxRecDepth 100000
set_option maxHeartbeats 1000000
namespace PW
open PySem PySem.Spec PyProof.Rows L2
section
variable {M : Mo} {S : Fix} {e : Expr} {es : List Expr} {f : Env → W D} {fs : Env → W (List D)} {p p2 q pos : Pos}
/-! ### len(set([..])) of ints -/
def dedI (ns : List Int) : List Int := ns.foldl step_dedup []
theorem firstMet_dedI (ns : List Int) : firstMet (fun i => ns.getD i 0) ns.length = dedI ns := by
  unfold firstMet dedI
  have e : (List.range ns.length).map (fun i => ns.getD i 0) = ns := by
    apply List.ext_getElem
    · rw [List.length_map, List.length_range]
    · intro i h1 h2
      rw [List.getElem_map, List.getElem_range, List.getD_eq_getElem?_getD, List.getElem?_eq_getElem h2]
      rfl
  rw [e]
def D.lenSet : D → W D
  | .lst xs => (W.some? (D.ints xs)).bind fun ns => (W.need (ns.length ≤ 4000)).bind fun _ => W.pure (.int (dedI ns).length)
  | _ => W.fail
theorem v_lenset (ha : EvB M S e f) (hf : decide (("len" : Str) ∈ M.free) = true := by kernel_rfl) (hf2 : decide (("set" : Str) ∈ M.free) = true := by kernel_rfl) (hg : S.sc.names.lookup ("len" : Str) = some .globalImplicit := by kernel_rfl) (hg2 : S.sc.names.lookup ("set" : Str) = some .globalImplicit := by kernel_rfl)
    (na : ∀ env, starEach [e] env = (false, eval e env) :: starEach [] env := by intro _; kernel_rfl) :
    EvV M S (.Call (.Name "len" p) [.Call (.Name "set" p2) [e] [] q] [] pos) fun ρ => (f ρ).bind D.lenSet := fun X G => by
  have core : PE X (.Call (.Name "len" p) [.Call (.Name "set" p2) [e] [] q] [] pos) (fun σ H Q => tBr X.K X.mg G.m f σ H fun x H1 => ∃ (l : Addr) (ns : List Int), x = .ref l ∧ SqL X.K H1 l (ns.map V.int) ∧ ns.length ≤ 4000 ∧ Q (.int (dedI ns).length) H1) := by
    refine ⟨fun pins s σ H Q I h => ?_⟩
    refine Call_ (ld_blt I (gl_of G hg) (G.free _ (of_decide_eq_true hf)) boot_len ?_)
    refine PyProof.Rows.callWith_builtin1 (PyProof.Rows.args_cons ?_ rfl) rfl rfl
    refine Call_ (ld_blt I (gl_of G hg2) (G.free _ (of_decide_eq_true hf2)) boot_set ?_)
    refine PyProof.Rows.callWith_type1 (PyProof.Rows.args_cons (thn ((ha X G).run pins s σ H _ I h) fun v s1 ⟨x, H1, I1, r1, q1⟩ => PyProof.Rows.args_nil ?_) (na _)) (na _) rfl
    obtain ⟨l, ns, rfl, hq, hl, q1⟩ := q1
    cases r1
    obtain ⟨its, r, pl, hz⟩ := I1.list hq
    have hlen : its.toArray.size = ns.length := by rw [List.size_toArray, ← r.length, List.length_map]
    refine call_set_list (I1.ok.hd G.calm) pl.isList (by simpa using r.ints) (by rw [hlen]; unfold scanBound; omega) fun h' tk hS hk => ?_
    refine PyProof.Rows.args_nil ?_
    rw [hlen, firstMet_dedI] at hS
    obtain ⟨o, es, ep, t, ho, hex, hd, _, _, _, hf, hn⟩ := hS
    have I2 : Inv X pins σ H1 { s1 with heap := h', toks := tk } := I1.kept fun b o e => hk b o (Heap.lt_size e) e
    have hle : (dedI ns).length ≤ 4000 := by
      rw [← firstMet_dedI]
      exact Nat.le_trans (firstMet_length_le _ _) hl
    exact call_len_set ho hex hd hf (by rw [hn] <;> omega) ⟨.int (dedI ns).length, H1, I2.tok _, ⟨_, by rw [hn]⟩, q1⟩
  refine core.impW fun σ H Q fc ⟨z0, H0, z, ρ, E, h⟩ => ⟨z0, H0, z, ρ, E, (f ρ).mono (fun d k v z1 H1 st1 fc1 r1 => ?_) h⟩
  cases d with
  | lst xs =>
    obtain ⟨ns, e, hz, k⟩ := some_run (show ((W.some? (D.ints xs)).bind fun ns => (W.need (ns.length ≤ 4000)).bind fun _ => W.pure (D.int (dedI ns).length)).run _ from k)
    obtain ⟨a, vs, rfl, q, r⟩ := r1.lst st1.ok
    exact ⟨a, ns, rfl, .of (by rw [← ints_eq r e]; exact q), hz, fun _ => k _ z1 H1 st1 fc1 (.int _)⟩
  | _ => exact (show False from k).elim

/-! ### dict([(k, v), ..]) -/
def pairsD : List D → Option (List (Key × D))
  | [] => some []
  | .tup [k, v] :: ds => match asKey k, pairsD ds with
    | some k, some r => some ((k, v) :: r)
    | _, _ => none
  | _ => none
def mergeD (kvs : List (Key × D)) : List (Key × D) := kvs.foldl (fun acc kv => putD acc kv.1 kv.2) []
def D.dict : List D → W D
  | [.lst xs] => (W.some? (pairsD xs)).bind fun kvs => W.pure (.dK (mergeD kvs))
  | _ => W.fail
theorem pairs_rp {K : PySem.W.Frag} {mg : Str → Option Value} {z : Z} {H : Hp} (s : Same z.f H) : ∀ {vs : List V} {ds : List D} {kvs : List (Key × D)}, RpL K mg z vs ds → pairsD ds = some kvs → ∃ (ps : List Addr) (kv : List (Key × V)), vs = ps.map V.ref ∧ Paired (fun p kv => SqT K H p [L2.kV kv.1, kv.2]) ps kv ∧ RpK K mg z kv kvs
  | _, _, _, .nil, e => by cases e; exact ⟨[], [], rfl, .nil, .nil⟩
  | _, _, _, .cons (d := d) (ds := ds) h r, e => by
    unfold pairsD at e
    split at e
    · rename_i heq; cases heq
    · rename_i k v ds' heq
      cases heq
      cases q : asKey k with
      | none => rw [q] at e; cases e
      | some key =>
        cases q2 : pairsD ds with
        | none => rw [q, q2] at e; cases e
        | some kvs =>
          rw [q, q2] at e
          cases e
          obtain ⟨ps, kv, rfl, h1, h2⟩ := pairs_rp s r q2
          cases h with
          | tup hf rl =>
            rename_i a vs
            obtain ⟨v1, v2, rfl, r1, r2⟩ := rl.two
            have e1 := asKey_eq r1 q
            subst e1
            exact ⟨a :: ps, (key, v2) :: kv, rfl, .cons (.of (s _ _ hf)) h1, .cons r2 h2⟩
    · cases e
theorem merge_rp {K : PySem.W.Frag} {mg : Str → Option Value} {z : Z} : ∀ {kv : List (Key × V)} {kvs : List (Key × D)} {a : List (Key × V)} {b : List (Key × D)}, RpK K mg z kv kvs → RpK K mg z a b → RpK K mg z (kv.foldl (fun acc kv => putK acc kv.1 kv.2) a) (kvs.foldl (fun acc kv => putD acc kv.1 kv.2) b)
  | _, _, _, _, .nil, s => s
  | _, _, _, _, .cons h r, s => by rw [List.foldl_cons, List.foldl_cons]; exact merge_rp r (s.put h)
theorem c_dict : CallFE M S (.type "dict") D.dict := fun X G => by
  refine ⟨_, call_dictP G.calm, fun {z H vs ds Q} fc ok rs h => ?_⟩
  unfold D.dict at h
  split at h
  · obtain ⟨v, rfl, r⟩ := rs.one
    obtain ⟨a, vs, rfl, q, r⟩ := r.lst ok
    obtain ⟨kvs, e, h⟩ := some_run h
    obtain ⟨ps, kv, rfl, h1, h2⟩ := pairs_rp ok.sub r e
    exact ⟨a, ps, kv, rfl, .of q, h1, fun p hp fc2 => kF_new h (Step.refl ok) fc2 hp (.dK (merge_rp h2 .nil))⟩
  · exact (show False from h).elim
end

/-! ### tables of defs -/
structure FnAt (P : Program) (w : World) (K : PySem.W.Frag) (mg : Str → Option Value) (base : Heap) (tb : List (Addr × Str)) (lv : Nat) (x : Str) (Φ : Eps → List D → W D) : Prop where
  ex : ∃ f, mg x = some (.ref f) ∧ PySem.W.keepIn K (.ref f) = true ∧ FnR P w K mg base (L2.CX P w) lv f (spW K mg tb Φ)
section
variable {P : Program} {w : World} {K : PySem.W.Frag} {mg : Str → Option Value} {base : Heap} {tb : List (Addr × Str)} {lv l : Nat} {x : Str} {Φ : Eps → List D → W D} {T : Tab}
theorem FnAt.mono (h : FnAt P w K mg base tb l x Φ) (hl : l ≤ lv) : FnAt P w K mg base tb lv x Φ := by
  obtain ⟨f, h1, h2, h3⟩ := h.ex
  exact ⟨f, h1, h2, h3.mono hl⟩
theorem tab_nil : TabOk P w K mg base tb lv [] := ⟨fun x Φ h => absurd h List.not_mem_nil⟩
theorem tab_cons (h : FnAt P w K mg base tb l x Φ) (ht : TabOk P w K mg base tb lv T) (hl : l ≤ lv := by decide) : TabOk P w K mg base tb lv ((x, Φ) :: T) := ⟨fun y Ψ hm => by
  rcases List.mem_cons.mp hm with e | hm
  · cases e
    exact (h.mono hl).ex
  · exact ht.at_ y Ψ hm⟩
end
end PW

set_option Elab.async false
set_option linter.all false
set_option maxRecDepth 100000
set_option maxHeartbeats 1000000
/-! list(zip(x, y)): the pairs stay out -/
namespace PySem.W
open PySem PySem.Calls PyProof.Rows PyProof.V PySem.Spec
theorem pw_nolen_zip : typeLookup (.type "zip") "__len__" = pure none := by rw [typeLookup_type, builtinLookup_eq_fast]; kernel_rfl
theorem pw_nohint_zip : typeLookup (.type "zip") "__length_hint__" = pure none := by rw [typeLookup_type, builtinLookup_eq_fast]; kernel_rfl
section
variable {prog : Program} {w : World} {A : Around} {E : Value → Shared → Prop} {s : Shared} {z TI TO i1 i2 T : Addr} {fp1 fp2 : List Addr} {n1 n2 i : Nat} {P1 P2 : Nat → Value → Prop} {St1 St2 : Nat → Heap → Prop} {f : Bool} {oT : Obj}
theorem pw_zipH_item {Q : Value → Shared → Prop} (S : ZipSep2 z TI TO i1 i2 fp1 fp2) (D1 : Draws prog w A i1 fp1 n1 P1 St1) (D2 : Draws prog w A i2 fp2 n2 P2 St2)
    (hz : IsZipHeld s.heap z TI TO T f) (hT : s.heap.get? T = some oT) (hTI : IsTupOf2 s.heap TI (.ref i1) (.ref i2)) (st1 : St1 i s.heap) (st2 : St2 i s.heap) (hlt1 : i < n1) (hlt2 : i < n2)
    (hQ : ∀ x1 x2 h' tk, P1 i x1 → P2 i x2 → IsZipHeld h' z TI TO T true → St1 (i + 1) h' → St2 (i + 1) h' → IsTupOf2 h' s.heap.objs.size x1 x2 →
      (∀ c o, c ≠ z → c ≠ i1 → c ≠ i2 → s.heap.get? c = some o → h'.get? c = some o) → Q (.ref s.heap.objs.size) { s with heap := h', toks := tk }) :
    wpAny (model prog w) A (Builtin.«zip.__next__» ⟨[.ref z], []⟩) (fun fin s' => ∃ v, fin = .done (.ret v) ∧ Q v s') E s := by
  obtain ⟨hp, g, d, tk0, os⟩ := s
  show wpAny _ _ (field (.ref z) 2 >>= _) _ _ _
  refine wpAny_bind (wpAny_field hz rfl (x := .bool false) rfl ?_)
  show wpAny _ _ (field (.ref z) 3 >>= _) _ _ _
  refine wpAny_bind (wpAny_field hz rfl (x := .ref TI) rfl ?_)
  refine wpAny_bind (wpAny_seqItems hTI rfl ?_)
  show wpAny _ _ (Builtin.SmallTypes.ownedTupleIsFree (.ref z) >>= _) _ _ _
  refine wpAny_bind (wpAny_tupleHeld_zip hz hT fun g0 hz0 hs0 => ?_)
  replace hs0 : Heap.SameBut z hp g0 := hs0
  simp only [Bool.false_eq_true, if_false]
  refine wpAny_bind ?_
  rw [← Array.forIn_toList]
  simp only [List.forIn_cons, List.forIn_nil]
  refine wpAny_bind (wpAny_bind (wpAny_holding ?_))
  show wpAny _ _ (Builtin.SmallTypes.nextOf (.ref i1) >>= _) _ _ ⟨g0, g, d, tk0, os⟩
  refine wpAny_bind (D1.item i _ _ _ hlt1 (D1.over st1 hs0 S.zf1) fun x1 p1 tk1 hx1 sn1 hp1 => wpAny_pure ?_)
  replace hp1 : Heap.SameBut i1 g0 p1 := hp1
  refine wpAny_pure ?_
  refine wpAny_bind (wpAny_bind (wpAny_holding ?_))
  show wpAny _ _ (Builtin.SmallTypes.nextOf (.ref i2) >>= _) _ _ ⟨p1, g, d, tk1, os⟩
  refine wpAny_bind (D2.item i _ _ _ hlt2 (D2.over (D2.over st2 hs0 S.zf2) hp1 S.sep1_2) fun x2 p2 tk2 hx2 sn2 hp2 => wpAny_pure ?_)
  replace hp2 : Heap.SameBut i2 p1 p2 := hp2
  refine wpAny_pure (wpAny_pure ?_)
  show wpAny _ _ (newTuple [x1, x2] >>= _) _ _ ⟨p2, g, d, tk2, os⟩
  refine wpAny_bind (wpAny_newTuple ?_)
  have hsz : p2.objs.size = hp.objs.size := by rw [hp2.1, hp1.1, hs0.1]
  have hzz : IsZipHeld p2 z TI TO T true := hp2.extBut _ _ S.zi2 (hp1.extBut _ _ S.zi1 hz0)
  have hk : ∀ c o, c ≠ z → c ≠ i1 → c ≠ i2 → hp.get? c = some o → p2.get? c = some o := fun c o c1 c2 c3 e => hp2.extBut _ _ c3 (hp1.extBut _ _ c2 (hs0.extBut _ _ c1 e))
  have hj1 : St1 (i + 1) p2 := D1.over sn1 hp2 S.sep2_1
  refine wpAny_pure ⟨_, rfl, ?_⟩
  show Q (.ref p2.objs.size) ⟨p2.push { cls := .type "tuple", data := .seq #[x1, x2] }, g, d, tk2, os⟩
  have hpp : IsTupOf2 (p2.push { cls := .type "tuple", data := .seq #[x1, x2] }) p2.objs.size x1 x2 := Heap.get?_push_size _ rfl
  have up : ∀ c o, p2.get? c = some o → (p2.push { cls := .type "tuple", data := .seq #[x1, x2] }).get? c = some o := fun c o e => Heap.get?_push_of_some _ e
  rw [hsz] at hpp ⊢
  exact hQ x1 x2 _ tk2 hx1 hx2 (up _ _ hzz) (D1.frame _ _ _ hj1 fun b _ o e => up b o e) (D2.frame _ _ _ sn2 fun b _ o e => up b o e) hpp fun c o c1 c2 c3 e => up _ _ (hk c o c1 c2 c3 e)
theorem pw_zipH_end {Q : Fin → Shared → Prop} (S : ZipSep2 z TI TO i1 i2 fp1 fp2) (D1 : Draws prog w A i1 fp1 n1 P1 St1) (D2 : Draws prog w A i2 fp2 n2 P2 St2)
    (hz : IsZipHeld s.heap z TI TO T f) (hT : s.heap.get? T = some oT) (hTI : IsTupOf2 s.heap TI (.ref i1) (.ref i2)) (st1 : St1 i s.heap) (st2 : St2 i s.heap) (hle1 : i ≤ n1) (hle2 : i ≤ n2) (hend : i = n1 ∨ i = n2)
    (hE : ∀ h' tk e, (∀ c o, c ≠ z → c ≠ i1 → c ≠ i2 → s.heap.get? c = some o → h'.get? c = some o) → (∃ o, h'.get? e = some o ∧ o.cls = .type "StopIteration") → E (.ref e) { s with heap := h', toks := tk }) :
    wpAny (model prog w) A (Builtin.«zip.__next__» ⟨[.ref z], []⟩) Q E s := by
  obtain ⟨hp, g, d, tk0, os⟩ := s
  show wpAny _ _ (field (.ref z) 2 >>= _) _ _ _
  refine wpAny_bind (wpAny_field hz rfl (x := .bool false) rfl ?_)
  show wpAny _ _ (field (.ref z) 3 >>= _) _ _ _
  refine wpAny_bind (wpAny_field hz rfl (x := .ref TI) rfl ?_)
  refine wpAny_bind (wpAny_seqItems hTI rfl ?_)
  show wpAny _ _ (Builtin.SmallTypes.ownedTupleIsFree (.ref z) >>= _) _ _ _
  refine wpAny_bind (wpAny_tupleHeld_zip hz hT fun g0 hz0 hs0 => ?_)
  replace hs0 : Heap.SameBut z hp g0 := hs0
  simp only [Bool.false_eq_true, if_false]
  refine wpAny_bind ?_
  rw [← Array.forIn_toList]
  simp only [List.forIn_cons, List.forIn_nil]
  refine wpAny_bind (wpAny_bind (wpAny_holding ?_))
  show wpAny _ _ (Builtin.SmallTypes.nextOf (.ref i1) >>= _) _ _ ⟨g0, g, d, tk0, os⟩
  by_cases hlt1 : i < n1
  · refine wpAny_bind (D1.item i _ _ _ hlt1 (D1.over st1 hs0 S.zf1) fun x1 p1 tk1 hx1 sn1 hp1 => wpAny_pure ?_)
    replace hp1 : Heap.SameBut i1 g0 p1 := hp1
    have hi2 : i = n2 := by omega
    refine wpAny_pure ?_
    refine wpAny_bind (wpAny_bind (wpAny_holding ?_))
    show wpAny _ _ (Builtin.SmallTypes.nextOf (.ref i2) >>= _) _ _ ⟨p1, g, d, tk1, os⟩
    refine wpAny_bind (D2.done ⟨p1, g, d, tk1, os⟩ _ _ (by rw [← hi2]; exact D2.over (D2.over st2 hs0 S.zf2) hp1 S.sep1_2) fun q e hq he => ?_)
    exact hE q tk1 e (fun c o cz c1 c2 x => hq _ _ c2 (hp1.extBut _ _ c1 (hs0.extBut _ _ cz x))) he
  · have hi1 : i = n1 := by omega
    refine wpAny_bind (D1.done ⟨g0, g, d, tk0, os⟩ _ _ (by rw [← hi1]; exact D1.over st1 hs0 S.zf1) fun q e hq he => ?_)
    exact hE q tk0 e (fun c o cz c1 c2 x => hq _ _ c1 (hs0.extBut _ _ cz x)) he
/-- the zip at turn i -/
structure PwZ (S : ZipSep2 z TI TO i1 i2 fp1 fp2) (St1 St2 : Nat → Heap → Prop) (i : Nat) (h : Heap) : Prop where
  ti : IsTupOf2 h TI (.ref i1) (.ref i2)
  s1 : St1 i h
  s2 : St2 i h
  to : ∃ o, h.get? TO = some o
  z : (IsZip h z TI TO .none ∧ ∃ a b, IsTupOf2 h TO a b) ∨ ∃ T f oT, IsZipHeld h z TI TO T f ∧ h.get? T = some oT ∧ oT.cls = .type "tuple" ∧ T ≠ z ∧ T ≠ i1 ∧ T ≠ i2 ∧ T ≠ TO
theorem PwZ.ty {S : ZipSep2 z TI TO i1 i2 fp1 fp2} (x : PwZ S St1 St2 i s.heap) : s.TypeIs (.ref z) "zip" := by
  rcases x.z with ⟨h, _⟩ | ⟨T, f, oT, h, _⟩
  · exact ⟨_, h, rfl⟩
  · exact ⟨_, h, rfl⟩
/-- another object changes, a list -/
theorem PwZ.over {S : ZipSep2 z TI TO i1 i2 fp1 fp2} (D1 : Draws prog w A i1 fp1 n1 P1 St1) (D2 : Draws prog w A i2 fp2 n2 P2 St2) {h h' : Heap} {L : Addr} {oL : Obj} (x : PwZ S St1 St2 i h) (hL : h.get? L = some oL) (hc : oL.cls = .type "list") (l1 : L ∉ fp1) (l2 : L ∉ fp2) (lz : L ≠ z) (lTI : L ≠ TI) (lTO : L ≠ TO)
    (k : ∀ b o, b ≠ L → h.get? b = some o → h'.get? b = some o) : PwZ S St1 St2 i h' := by
  refine ⟨k _ _ lTI.symm x.ti, D1.frame _ _ _ x.s1 fun b hb o e => k b o (fun q => l1 (q ▸ hb)) e, D2.frame _ _ _ x.s2 fun b hb o e => k b o (fun q => l2 (q ▸ hb)) e, let ⟨o, e⟩ := x.to; ⟨o, k _ _ lTO.symm e⟩, ?_⟩
  rcases x.z with ⟨hz, a, b, hTO⟩ | ⟨T, f, oT, hz, hT, hcT, r1, r2, r3, r4⟩
  · exact .inl ⟨k _ _ lz.symm hz, a, b, k _ _ lTO.symm hTO⟩
  · refine .inr ⟨T, f, oT, k _ _ lz.symm hz, k _ _ (fun q => ?_) hT, hcT, r1, r2, r3, r4⟩
    rw [q, hL] at hT
    cases hT
    rw [hc] at hcT
    exact absurd (Value.type.inj hcT) (by decide)
theorem PwZ.keep {S : ZipSep2 z TI TO i1 i2 fp1 fp2} (D1 : Draws prog w A i1 fp1 n1 P1 St1) (D2 : Draws prog w A i2 fp2 n2 P2 St2) {h h' : Heap} (x : PwZ S St1 St2 i h)
    (k : ∀ b o, h.get? b = some o → h'.get? b = some o) : PwZ S St1 St2 i h' := by
  refine ⟨k _ _ x.ti, D1.frame _ _ _ x.s1 fun b hb o e => k b o e, D2.frame _ _ _ x.s2 fun b hb o e => k b o e, let ⟨o, e⟩ := x.to; ⟨o, k _ _ e⟩, ?_⟩
  rcases x.z with ⟨hz, a, b, hTO⟩ | ⟨T, f, oT, hz, hT, hcT, r⟩
  · exact .inl ⟨k _ _ hz, a, b, k _ _ hTO⟩
  · exact .inr ⟨T, f, oT, k _ _ hz, k _ _ hT, hcT, r⟩
theorem pw_zip_item {Q : Option Value → Shared → Prop} (S : ZipSep2 z TI TO i1 i2 fp1 fp2) (D1 : Draws prog w A.in1 i1 fp1 n1 P1 St1) (D2 : Draws prog w A.in1 i2 fp2 n2 P2 St2) (x : PwZ S St1 St2 i s.heap) (hlt1 : i < n1) (hlt2 : i < n2)
    (hQ : ∀ x1 x2 h' tk, P1 i x1 → P2 i x2 → PwZ S St1 St2 (i + 1) h' → IsTupOf2 h' s.heap.objs.size x1 x2 → (∀ c o, c ≠ z → c ≠ TO → c ≠ i1 → c ≠ i2 → s.heap.get? c = some o → h'.get? c = some o) → Q (some (.ref s.heap.objs.size)) { s with heap := h', toks := tk }) :
    wpAny (model prog w) A (pyNext (.ref z)) Q E s := by
  have hTy := x.ty
  have lt : ∀ {c o}, s.heap.get? c = some o → s.heap.objs.size ≠ c := fun e => Nat.ne_of_gt (Heap.lt_size e)
  have n1' : s.heap.objs.size ≠ i1 := by obtain ⟨_, e⟩ := D1.live _ _ x.s1; exact lt e
  have n2' : s.heap.objs.size ≠ i2 := by obtain ⟨_, e⟩ := D2.live _ _ x.s2; exact lt e
  rcases x.z with ⟨hz, a, b, hTO⟩ | ⟨T, f, oT, hz, hT, hcT, r1, r2, r3, r4⟩
  · refine wpAny_pyNext_zipD2_item S D1 D2 hz x.ti hTO x.s1 x.s2 hlt1 hlt2 fun x1 x2 h' tk p1 p2 hz' hTO' s1' s2' hT' hsz hk => ?_
    exact hQ x1 x2 h' tk p1 p2 ⟨hk _ _ S.TIz S.TITO S.TIi1 S.TIi2 x.ti, s1', s2', ⟨_, hTO'⟩, .inr ⟨_, false, _, hz', hT', rfl, lt hz, n1', n2', lt hTO⟩⟩ hT' hk
  · unfold pyNext
    refine wpAny_bind (wpAny_attempt (wpAny_callSpecial?_slot (name := Str.ofString "__next__") hTy F.slot_zip_next
      (wpAny_call_entry F.slot_zip_next hTy F.entry_zip_next (pw_zipH_item S D1 D2 hz hT x.ti x.s1 x.s2 hlt1 hlt2 fun x1 x2 h' tk p1 p2 hz' s1' s2' hT' hk => wpAny_pure ?_) (F.args_zip_next_1 _))))
    exact hQ x1 x2 h' tk p1 p2 ⟨hk _ _ S.TIz S.TIi1 S.TIi2 x.ti, s1', s2', (let ⟨o, e⟩ := x.to; ⟨o, hk _ _ S.TOz S.Ti1 S.Ti2 e⟩), .inr ⟨T, true, oT, hz', hk _ _ r1 r2 r3 hT, hcT, r1, r2, r3, r4⟩⟩ hT' fun c o c1 _ c3 c4 e => hk c o c1 c3 c4 e
theorem pw_zip_end {Q : Option Value → Shared → Prop} (S : ZipSep2 z TI TO i1 i2 fp1 fp2) (D1 : Draws prog w A.in1 i1 fp1 n1 P1 St1) (D2 : Draws prog w A.in1 i2 fp2 n2 P2 St2) (x : PwZ S St1 St2 i s.heap) (hle1 : i ≤ n1) (hle2 : i ≤ n2) (hend : i = n1 ∨ i = n2)
    (hQ : ∀ h' tk, (∀ c o, c ≠ z → c ≠ TO → c ≠ i1 → c ≠ i2 → s.heap.get? c = some o → h'.get? c = some o) → Q none { s with heap := h', toks := tk }) :
    wpAny (model prog w) A (pyNext (.ref z)) Q E s := by
  have hTy := x.ty
  rcases x.z with ⟨hz, a, b, hTO⟩ | ⟨T, f, oT, hz, hT, hcT, r1, r2, r3⟩
  · exact wpAny_pyNext_zipD2_end S D1 D2 hz x.ti hTO x.s1 x.s2 hle1 hle2 hend hQ
  · unfold pyNext
    refine wpAny_bind (wpAny_attempt (wpAny_callSpecial?_slot (name := Str.ofString "__next__") hTy F.slot_zip_next
      (wpAny_call_entry F.slot_zip_next hTy F.entry_zip_next (pw_zipH_end S D1 D2 hz hT x.ti x.s1 x.s2 hle1 hle2 hend fun h' tk e hk he => ?_) (F.args_zip_next_1 _))))
    obtain ⟨o, ho, hc⟩ := he
    refine wpAny_bind (wpAny_isInstance (T := "StopIteration") (b := true) ⟨o, ho, hc⟩ isSubtype_stop ?_)
    exact wpAny_pure (hQ _ _ fun c o c1 _ c3 c4 e => hk c o c1 c3 c4 e)
/-- the pairs that lie in the list -/
def PwPairs (P1 P2 : Nat → Value → Prop) (h : Heap) (acc : List Value) : Prop := ∀ j v, acc[j]? = some v → ∃ T x1 x2, v = .ref T ∧ P1 j x1 ∧ P2 j x2 ∧ IsTupOf2 h T x1 x2
theorem pw_zip_loop {R : Result → Shared → Prop} (S : ZipSep2 z TI TO i1 i2 fp1 fp2) {L : Addr} (D1 : Draws prog w A.in1.in1 i1 fp1 n1 P1 St1) (D2 : Draws prog w A.in1.in1 i2 fp2 n2 P2 St2) (hn : min n1 n2 ≤ sizeLine) (l1 : L ∉ fp1) (l2 : L ∉ fp2) (lz : L ≠ z) (lTI : L ≠ TI) (lTO : L ≠ TO) (res : Value) (h0 : Heap)
    (hw : ∀ b o, h0.get? b = some o → b ≠ L ∧ b ≠ z ∧ b ≠ TO ∧ b ≠ i1 ∧ b ≠ i2) :
    ∀ (k i : Nat) (s : Shared) (acc : Array Value) (c : Nat), min n1 n2 - i = k → i ≤ min n1 n2 → PwZ S St1 St2 i s.heap → s.heap.get? L = some { cls := .type "list", dict := none, data := .seq acc c, slots := #[] } → acc.size = i →
      PwPairs P1 P2 s.heap acc.toList → (∀ v ∈ acc.toList, ∀ T, v = .ref T → T ≠ L ∧ T ≠ z ∧ T ≠ TO ∧ T ≠ i1 ∧ T ≠ i2 ∧ L < T) → acc.toList.Nodup → (∀ b o, h0.get? b = some o → s.heap.get? b = some o) →
      (∀ h' tk acc' c', (∀ b o, h0.get? b = some o → h'.get? b = some o) → h'.get? L = some { cls := .type "list", dict := none, data := .seq acc' c', slots := #[] } → acc'.size = min n1 n2 → PwPairs P1 P2 h' acc'.toList → acc'.toList.Nodup → (∀ v ∈ acc'.toList, ∀ T, v = .ref T → L < T) → R (.ok (.ret res)) { s with heap := h', toks := tk }) →
      codeAny (model prog w) A (.builtin "list.extend.loop" ⟨[.ref L, .ref z, res], []⟩) R s := by
  intro k
  induction k with
  | zero =>
    intro i s acc c hk hi x hL hacc hp hne hnd h0k hR
    have hin : i = min n1 n2 := by omega
    refine codeAny_builtin F.entry_extend_loop ?_
    rw [Around.under_plainId F.plain_extend_loop _]
    show wpAny _ A.in1 (pyNext (.ref z) >>= _) _ _ s
    refine wpAny_bind (pw_zip_end S D1 D2 x (by omega) (by omega) (by omega) fun h' tk hk => wpAny_pure (hR h' tk acc c (fun b o e => ?_) (hk _ _ lz lTO (fun q => ?_) (fun q => ?_) hL) (by rw [hacc, hin]) (fun j v e => ?_) hnd fun v hv T e => (hne v hv T e).2.2.2.2.2))
    · obtain ⟨_, a2, a3, a4, a5⟩ := hw b o e
      exact hk b o a2 a3 a4 a5 (h0k b o e)
    · exact l1 (q ▸ S.mem1)
    · exact l2 (q ▸ S.mem2)
    · obtain ⟨T, x1, x2, rfl, p1, p2, hT⟩ := hp j v e
      obtain ⟨_, a2, a3, a4, a5, _⟩ := hne _ (List.mem_of_getElem? e) T rfl
      exact ⟨T, x1, x2, rfl, p1, p2, hk _ _ a2 a3 a4 a5 hT⟩
  | succ k ih =>
    intro i s acc c hk hi x hL hacc hp hne hnd h0k hR
    have hlt : i < min n1 n2 := by omega
    refine codeAny_builtin F.entry_extend_loop ?_
    rw [Around.under_plainId F.plain_extend_loop _]
    show wpAny _ A.in1 (pyNext (.ref z) >>= _) _ _ s
    refine wpAny_bind (pw_zip_item S D1 D2 x (by omega) (by omega) fun x1 x2 h' tk p1 p2 x' hT hk => ?_)
    have lt : ∀ {c o}, s.heap.get? c = some o → s.heap.objs.size ≠ c := fun e => Nat.ne_of_gt (Heap.lt_size e)
    have hLi1 : L ≠ i1 := fun q => l1 (q ▸ S.mem1)
    have hLi2 : L ≠ i2 := fun q => l2 (q ▸ S.mem2)
    have hL' : h'.get? L = some { cls := .type "list", dict := none, data := .seq acc c, slots := #[] } := hk _ _ lz lTO hLi1 hLi2 hL
    have hTL : s.heap.objs.size ≠ L := lt hL
    show wpAny _ A.in1 (updateSeq L (·.push (.ref s.heap.objs.size)) >>= _) _ _ _
    refine wpAny_bind ?_
    refine wpAny_updateSeq (s := { s with heap := h', toks := tk }) hL' rfl (wpAny_pure ⟨plainId_quiet F.plain_extend_loop _, ih (i + 1) _ (acc.push (.ref s.heap.objs.size)) _ (by omega) hlt
      (x'.over D1 D2 hL' rfl l1 l2 lz lTI lTO fun b o hb e => (Heap.get?_update_other _ _ (Ne.symm hb)).trans e) (Heap.get?_update_self _ hL' rfl) (by rw [Array.size_push, hacc]) (fun j v e => ?_) (fun v hv T eT => ?_) (by rw [Array.toList_push]; exact List.nodup_append.mpr ⟨hnd, by simp, fun a ha b hb e => by
        rw [List.mem_singleton.mp hb] at e
        subst e
        obtain ⟨j, hj⟩ := List.mem_iff_getElem?.mp ha
        obtain ⟨T, y1, y2, eT, _, _, hT'⟩ := hp j _ hj
        cases eT
        exact Nat.lt_irrefl _ (Heap.lt_size hT')⟩) (fun b o e => ?_) fun h'' tk'' acc' c' a1 a2 a3 a4 a5 a6 => hR h'' tk'' acc' c' a1 a2 a3 a4 a5 a6⟩)
      (by rw [hacc]; omega) (by show (acc.push _).size ≤ sizeLine + 1; rw [Array.size_push, hacc]; omega)
    · rw [Array.toList_push] at e
      have e3 : acc.toList.length = i := by rw [Array.length_toList, hacc]
      by_cases hj : j < acc.toList.length
      · rw [List.getElem?_append_left hj] at e
        obtain ⟨T, y1, y2, rfl, q1, q2, hT'⟩ := hp j v e
        obtain ⟨a1, a2, a3, a4, a5, _⟩ := hne _ (List.mem_of_getElem? e) T rfl
        exact ⟨T, y1, y2, rfl, q1, q2, (Heap.get?_update_other _ _ (Ne.symm a1)).trans (hk _ _ a2 a3 a4 a5 hT')⟩
      · rw [List.getElem?_append_right (by omega)] at e
        have hj0 : j - acc.toList.length = 0 := by
          cases q : j - acc.toList.length with
          | zero => rfl
          | succ m => rw [q] at e; simp at e
        rw [hj0] at e
        have ev : v = .ref s.heap.objs.size := by simpa using e.symm
        have ej : j = i := by omega
        subst ev
        subst ej
        exact ⟨_, x1, x2, rfl, p1, p2, (Heap.get?_update_other _ _ (Ne.symm hTL)).trans hT⟩
    · rw [Array.toList_push] at hv
      rcases List.mem_append.mp hv with hv | hv
      · exact hne v hv T eT
      · have ev : v = .ref s.heap.objs.size := by simpa using hv
        rw [ev] at eT
        cases eT
        have n1' : s.heap.objs.size ≠ i1 := by obtain ⟨_, e⟩ := D1.live _ _ x.s1; exact lt e
        have n2' : s.heap.objs.size ≠ i2 := by obtain ⟨_, e⟩ := D2.live _ _ x.s2; exact lt e
        obtain ⟨oTO, hTO⟩ := x.to
        rcases x.z with ⟨hz, _⟩ | ⟨T, f, oT, hz, _⟩
        · exact ⟨hTL, lt hz, lt hTO, n1', n2', Heap.lt_size hL⟩
        · exact ⟨hTL, lt hz, lt hTO, n1', n2', Heap.lt_size hL⟩
    · obtain ⟨a1, a2, a3, a4, a5⟩ := hw b o e
      exact (Heap.get?_update_other _ _ (Ne.symm a1)).trans (hk b o a2 a3 a4 a5 (h0k b o e))
/-- list(z), z such a zip at its begin; all that stood at h0 stays -/
theorem pw_list_zip {Q : Value → Shared → Prop} (hh : A.handled = none) (S : ZipSep2 z TI TO i1 i2 fp1 fp2) (D1 : Draws prog w A.in1.in1.in1 i1 fp1 n1 P1 St1) (D2 : Draws prog w A.in1.in1.in1 i2 fp2 n2 P2 St2) (hn : min n1 n2 ≤ sizeLine) (x : PwZ S St1 St2 0 s.heap) (hz0 : IsZip s.heap z TI TO .none) (h0 : Heap)
    (hw : ∀ b o, h0.get? b = some o → b ≠ z ∧ b ≠ TO ∧ b ≠ i1 ∧ b ≠ i2) (hk0 : ∀ b o, h0.get? b = some o → s.heap.get? b = some o) (hf : ∀ b ∈ fp1 ++ fp2, b < s.heap.objs.size)
    (hQ : ∀ h' tk acc' c', (∀ b o, h0.get? b = some o → h'.get? b = some o) → h'.get? s.heap.objs.size = some { cls := .type "list", dict := none, data := .seq acc' c', slots := #[] } → acc'.size = min n1 n2 → PwPairs P1 P2 h' acc'.toList → acc'.toList.Nodup → (∀ v ∈ acc'.toList, ∀ T, v = .ref T → s.heap.objs.size < T) → Q (.ref s.heap.objs.size) { s with heap := h', toks := tk }) :
    wpAny (model prog w) A (call (.type "list") [.ref z]) Q E s := by
  refine callType_codes (Q₁ := fun obj s₁ => obj = .ref s.heap.objs.size ∧ s₁ = { s with heap := s.heap.push { cls := .type "list", data := .seq #[] } }) PySem.F.called_list (PySem.F.typeCall_list_1 _) PySem.F.entry_list_init
    (code_list_new _ ⟨rfl, rfl⟩) fun obj s₁ h₁ => ?_
  obtain ⟨rfl, rfl⟩ := h₁
  have lt : ∀ {c o}, s.heap.get? c = some o → s.heap.objs.size ≠ c := fun e => Nat.ne_of_gt (Heap.lt_size e)
  have hS : (s.heap.push { cls := .type "list", data := .seq #[] }).get? s.heap.objs.size = some { cls := .type "list", data := .seq #[] } := Heap.get?_push_size _ rfl
  have l1 : s.heap.objs.size ∉ fp1 := fun m => Nat.lt_irrefl _ (hf _ (List.mem_append_left _ m))
  have l2 : s.heap.objs.size ∉ fp2 := fun m => Nat.lt_irrefl _ (hf _ (List.mem_append_right _ m))
  have lTI : s.heap.objs.size ≠ TI := lt x.ti
  obtain ⟨oTO, hTO⟩ := x.to
  have lTO : s.heap.objs.size ≠ TO := lt hTO
  have lz : s.heap.objs.size ≠ z := by
    rcases x.z with ⟨hz, _⟩ | ⟨T, f, oT, hz, _⟩
    · exact lt hz
    · exact lt hz
  have x1 : PwZ S St1 St2 0 (s.heap.push { cls := .type "list", data := .seq #[] }) := x.keep D1 D2 fun b o e => Heap.get?_push_of_some _ e
  refine ⟨⟨_, hS, rfl⟩, PySem.F.args_list_init_2 _ _, ?_⟩
  show wpAny _ _ (do let old ← Builtin.List.listItems (.ref s.heap.objs.size); Builtin.List.listUpdate (.ref s.heap.objs.size) (fun _ => #[]); letGo old.toList.reverse; Builtin.List.listExtendWith (.ref s.heap.objs.size) (.ref z) .none) _ _ { s with heap := s.heap.push { cls := .type "list", data := .seq #[] } }
  refine wpAny_bind ?_
  unfold Builtin.List.listItems
  refine wpAny_bind (wpAny_seqItems hS rfl (wpAny_pure ?_))
  show wpAny _ _ (updateSeq s.heap.objs.size (fun _ => #[]) >>= fun _ => letGo (#[] : Array Value).toList.reverse >>= fun _ => Builtin.List.listExtendWith (.ref s.heap.objs.size) (.ref z) .none) _ _ { s with heap := s.heap.push { cls := .type "list", data := .seq #[] } }
  refine wpAny_bind (wpAny_updateSeq hS rfl ?_)
  have hS₂ := Heap.get?_update_self (Obj.mapSeq (fun _ => (#[] : Array Value))) hS rfl
  have oth : ∀ b o, b ≠ s.heap.objs.size → (s.heap.push { cls := .type "list", data := .seq #[] }).get? b = some o → ((s.heap.push { cls := .type "list", data := .seq #[] }).update s.heap.objs.size (Obj.mapSeq (fun _ => (#[] : Array Value)))).get? b = some o :=
    fun b o hb e => (Heap.get?_update_other _ _ (Ne.symm hb)).trans e
  have x2 := x1.over D1 D2 hS rfl l1 l2 lz lTI lTO oth
  refine wpAny_bind (wpAny_letGo ?_)
  unfold Builtin.List.listExtendWith
  refine wpAny_bind (wpAny_typeOf (T := "zip") x2.ty ?_)
  have h1 : Builtin.List.listSameRef (.ref s.heap.objs.size) (.ref z) = false := by simp [Builtin.List.listSameRef, lz]
  have h2 : (Value.type "zip" == Value.type "list") = false := by decide
  have h3 : (Value.type "zip" == Value.type "tuple") = false := by decide
  simp only [h1, h2, h3, Bool.or_false, Bool.false_eq_true, if_false]
  have key : ∀ (h : Heap) (c₁ tk : Nat), PwZ S St1 St2 0 h → (∀ b o, b ≠ s.heap.objs.size → s.heap.get? b = some o → h.get? b = some o) →
      h.get? s.heap.objs.size = some { cls := .type "list", data := .seq #[] c₁ } → ∀ R : Result → Shared → Prop, (∀ h' tk acc' c', (∀ b o, h0.get? b = some o → h'.get? b = some o) → h'.get? s.heap.objs.size = some { cls := .type "list", dict := none, data := .seq acc' c', slots := #[] } → acc'.size = min n1 n2 → PwPairs P1 P2 h' acc'.toList → acc'.toList.Nodup → (∀ v ∈ acc'.toList, ∀ T, v = .ref T → s.heap.objs.size < T) → R (.ok (.ret .none)) { s with heap := h', toks := tk }) →
      codeAny (model prog w) A.in1 (.builtin "list.extend.loop" ⟨[.ref s.heap.objs.size, .ref z, .none], []⟩) R { s with heap := h, toks := tk } := fun h c₁ tk xh hkh hSh R hR => by
    refine pw_zip_loop (A := A.in1) S D1 D2 hn l1 l2 lz lTI lTO .none h0 (fun b o e => ⟨(Nat.ne_of_lt (Heap.lt_size (hk0 b o e))), hw b o e⟩) _ 0 { s with heap := h, toks := tk } #[] c₁ rfl (Nat.zero_le _) xh hSh rfl (fun j v e => by simp at e) (fun v hv => by simp at hv) (by simp) (fun b o e => hkh b o (Nat.ne_of_lt (Heap.lt_size (hk0 b o e))) (hk0 b o e)) hR
  have hz2 : IsZip ((s.heap.push { cls := .type "list", data := .seq #[] }).update s.heap.objs.size (Obj.mapSeq (fun _ => (#[] : Array Value)))) z TI TO .none := oth _ _ lz.symm (Heap.get?_push_of_some _ hz0)
  refine wpAny_bind (wpAny_pyIter_zip hz2 ?_)
  refine wpAny_bind (wpAny_holding ?_)
  unfold Builtin.List.listLengthHint
  refine wpAny_bind (wpAny_specialOf x2.ty pw_nolen_zip ?_)
  show wpAny _ _ (specialOf (Value.ref z) (Str.ofString "__length_hint__") >>= _) _ _ _
  refine wpAny_bind (wpAny_specialOf x2.ty pw_nohint_zip ?_)
  refine wpAny_pure ?_
  show wpAny _ _ (rule "list.extend.makes-room" >>= fun _ => Builtin.List.listTouch (.ref s.heap.objs.size) >>= fun _ =>
    again (.builtin "list.extend.loop" ⟨[.ref s.heap.objs.size, .ref z, .none], []⟩)) _ _ _
  refine wpAny_bind (wpAny_rule ?_)
  refine wpAny_bind ?_
  show wpAny _ _ (updateSeq s.heap.objs.size (·.push .none) >>= fun _ => updateSeq s.heap.objs.size (·.pop)) _ _ _
  refine wpAny_bind (wpAny_updateSeq hS₂ rfl ?_)
  have hS₃ := Heap.get?_update_self (Obj.mapSeq (·.push Value.none)) hS₂ rfl
  refine wpAny_updateSeq hS₃ rfl ?_
  have hS₄ := Heap.get?_update_self (Obj.mapSeq (·.pop)) hS₃ rfl
  have oth2 : ∀ b o, b ≠ s.heap.objs.size → ((s.heap.push { cls := .type "list", data := .seq #[] }).update s.heap.objs.size (Obj.mapSeq (fun _ => (#[] : Array Value)))).get? b = some o →
      ((((s.heap.push { cls := .type "list", data := .seq #[] }).update s.heap.objs.size (Obj.mapSeq (fun _ => (#[] : Array Value)))).update s.heap.objs.size (Obj.mapSeq (·.push Value.none))).update s.heap.objs.size (Obj.mapSeq (·.pop))).get? b = some o :=
    fun b o hb e => (Heap.get?_update_other _ _ (Ne.symm hb)).trans ((Heap.get?_update_other _ _ (Ne.symm hb)).trans e)
  refine wpAny_pure ⟨plainId_quiet F.plain_extend_loop _, key _ _ s.toks (x2.over D1 D2 hS₂ rfl l1 l2 lz lTI lTO oth2) (fun b o hb e => oth2 b o hb (oth b o hb (Heap.get?_push_of_some _ e))) hS₄ _ fun h' tk acc' c' a1 a2 a3 a4 a5 a6 => ?_⟩
  exact ⟨rfl, hQ h' tk acc' c' a1 a2 a3 a4 a5 a6⟩
end
end PySem.W
namespace PW
open PySem PySem.Spec PyProof.Rows L2
/-- several new objects -/
theorem Step.grow {K : PySem.W.Frag} {z : Z} {H H2 : Hp} (ok : ZOk K z H) (g : ∀ b o, H b = some o → H2 b = some o) (L : List Addr) (hL : ∀ b ∈ L, H b = none) : ∃ z', Step K z H z' H2 ∧ ∀ b ∈ L, ∀ o, H2 b = some o → o.nb → z'.f b = some o := by
  classical
  have inL : ∀ {b : Addr} {o : HO}, z.f b = some o → ¬ (b ∈ L ∧ ∀ o, H2 b = some o → o.nb) := fun {b o} e m => by have := hL b m.1; rw [ok.sub _ _ e] at this; cases this
  refine ⟨⟨fun b => if b ∈ L ∧ ∀ o, H2 b = some o → o.nb then H2 b else z.f b, z.bg, z.tb⟩, ⟨⟨fun b o e => ?_, fun _ _ e => e, rfl⟩, ⟨fun b o e => ?_, ok.bag.keep (fun b o e => ?_) ⟨rfl, rfl⟩ (fun a e => ?_) fun a o _ e => g a o e, fun b o e => ?_⟩, fun b o _ e _ => g b o e, fun b o h1 h2 _ => ?_, fun b e => .inl e⟩, fun b hb o e hn => ?_⟩
  · show (if b ∈ L ∧ ∀ o, H2 b = some o → o.nb then H2 b else z.f b) = some o
    rw [if_neg (inL e)]
    exact e
  · have e : (if b ∈ L ∧ ∀ o, H2 b = some o → o.nb then H2 b else z.f b) = some o := e
    by_cases m : b ∈ L ∧ ∀ o, H2 b = some o → o.nb
    · rw [if_pos m] at e; exact e
    · rw [if_neg m] at e; exact g _ _ (ok.sub _ _ e)
  · show (if b ∈ L ∧ ∀ o, H2 b = some o → o.nb then H2 b else z.f b) = some o
    rw [if_neg (inL e)]
    exact e
  · show (if a ∈ L ∧ ∀ o, H2 a = some o → o.nb then H2 a else z.f a) = none
    rw [if_neg (fun m => ok.bag.there e (hL a m.1))]
    exact (ok.bag a e).1
  · have e : (if b ∈ L ∧ ∀ o, H2 b = some o → o.nb then H2 b else z.f b) = some o := e
    by_cases m : b ∈ L ∧ ∀ o, H2 b = some o → o.nb
    · rw [if_pos m] at e; exact m.2 o e
    · rw [if_neg m] at e; exact ok.nb _ _ e
  · show (if b ∈ L ∧ ∀ o, H2 b = some o → o.nb then H2 b else z.f b) = none
    rw [if_neg (fun m => by rw [hL b m.1] at h2; cases h2)]
    exact h1
  · show (if b ∈ L ∧ ∀ o, H2 b = some o → o.nb then H2 b else z.f b) = some o
    rw [if_pos ⟨hb, fun o' e' => by rw [e] at e'; cases e'; exact hn⟩]; exact e
theorem nea {a b : Nat} (h : a < b ∨ b < a) : @Ne Addr a b := fun e => by
  have e' : @Eq Nat a b := e
  omega
theorem nin2 {x a b : Addr} (h1 : x ≠ a) (h2 : x ≠ b) : x ∉ [a, b] := fun m => by
  rcases List.mem_cons.mp m with e | m
  · exact h1 e
  · exact h2 (List.mem_singleton.mp m)
theorem zsep {n a b : Nat} (la : a < n) (lb : b < n) : ZipSep2 (n + 4) (n + 2) (n + 3) n (n + 1) [n, a] [n + 1, b] where
  TIz := nea (by omega)
  TOz := nea (by omega)
  TITO := nea (by omega)
  TIi1 := nea (by omega)
  mem1 := List.mem_cons_self
  zf1 := nin2 (nea (by omega)) (nea (by omega))
  Tf1 := nin2 (nea (by omega)) (nea (by omega))
  TIi2 := nea (by omega)
  mem2 := List.mem_cons_self
  zf2 := nin2 (nea (by omega)) (nea (by omega))
  Tf2 := nin2 (nea (by omega)) (nea (by omega))
  sep1_2 := nin2 (nea (by omega)) (nea (by omega))
  sep2_1 := nin2 (nea (by omega)) (nea (by omega))
def adr : Value → Addr
  | .ref a => a
  | _ => 0
theorem rpL_of {K : PySem.W.Frag} {mg : Str → Option Value} {z : Z} : ∀ {Ts : List Addr} {l : List D}, l.length = Ts.length → (∀ (j : Nat) (T : Addr), Ts[j]? = some T → ∃ d, l[j]? = some d ∧ Rp K mg z (.ref T) d) → RpL K mg z (Ts.map V.ref) l
  | [], [], _, _ => .nil
  | [], _ :: _, h, _ => by simp at h
  | _ :: _, [], h, _ => by simp at h
  | T :: Ts, d :: l, h, f => by
    obtain ⟨d', e, r⟩ := f 0 T rfl
    cases e
    exact .cons r (rpL_of (by simpa using h) fun j T hj => f (j + 1) T (by simpa using hj))
def rLz (K : PySem.W.Frag) : List V → Hp → VK → Prop := fun vs H1 Q => ∃ a b xs ys, vs = [V.ref a, V.ref b] ∧ ((SqL K H1 a xs ∧ SqL K H1 b ys) ∨ (SqT K H1 a xs ∧ SqT K H1 b ys)) ∧
  ∀ (H2 : Hp) (p : Addr) (Ts : List Addr), (∀ b o, H1 b = some o → H2 b = some o) → (∀ T ∈ p :: Ts, H1 T = none) → H2 p = some (.lst (Ts.map V.ref)) → Ts.length = min xs.length ys.length →
    (∀ (j : Nat) (T : Addr), Ts[j]? = some T → ∃ x y, xs[j]? = some x ∧ ys[j]? = some y ∧ H2 T = some (.tup [x, y])) → Q (.ref p) H2
theorem lz_fin {X : Cx} {pins : List (Addr × Obj)} {σ : Sg} {H : Hp} {s : Shared} {its its2 : List Value} {xs ys : List V} {a b : Addr} {Q : VK} (I : Inv X pins σ H s) (rv : Vals xs its) (rv2 : Vals ys its2) (hz : xs.length ≤ sizeLine)
    (q : ∀ (H2 : Hp) (p : Addr) (Ts : List Addr), (∀ b o, H b = some o → H2 b = some o) → (∀ T ∈ p :: Ts, H T = none) → H2 p = some (.lst (Ts.map V.ref)) → Ts.length = min xs.length ys.length →
      (∀ (j : Nat) (T : Addr), Ts[j]? = some T → ∃ x y, xs[j]? = some x ∧ ys[j]? = some y ∧ H2 T = some (.tup [x, y])) → Q (.ref p) H2) {h' : Heap} {tk : Nat} {acc : Array Value} {c : Nat} {p : Addr}
    (a1 : ∀ b o, s.heap.get? b = some o → h'.get? b = some o) (hp : s.heap.objs.size ≤ p) (a2 : h'.get? p = some { cls := .type "list", dict := none, data := .seq acc c, slots := #[] }) (a3 : acc.size = min its.toArray.size its2.toArray.size)
    (a4 : PySem.W.PwPairs (fun i v => its.toArray[i]? = some v) (fun i v => its2.toArray[i]? = some v) h' acc.toList) (a5 : acc.toList.Nodup) (a6 : ∀ v ∈ acc.toList, ∀ T, v = .ref T → p < T) : EP X pins σ Q (.ref p) { s with heap := h', toks := tk } := by
  have eT : acc.toList = (acc.toList.map adr).map Value.ref := by
    rw [List.map_map]
    conv => lhs; rw [← List.map_id acc.toList]
    refine List.map_congr_left fun v hv => ?_
    obtain ⟨j, hj⟩ := List.mem_iff_getElem?.mp hv
    obtain ⟨T, _, _, e, _⟩ := a4 j v hj
    subst e
    rfl
  generalize hTs : acc.toList.map adr = Ts at eT
  have hlen : Ts.length = min xs.length ys.length := by
    rw [← hTs, List.length_map, Array.length_toList, a3, List.size_toArray, List.size_toArray, rv.length, rv2.length]
  have nd : Ts.Nodup := by
    rw [eT] at a5
    exact List.Pairwise.of_map Value.ref (fun a b h e => h (by rw [e])) a5
  have mem : ∀ T ∈ Ts, Value.ref T ∈ acc.toList := fun T hT => by rw [eT]; exact List.mem_map.mpr ⟨T, hT, rfl⟩
  have hgt : ∀ T ∈ Ts, p < T := fun T hT => a6 _ (mem T hT) T rfl
  have I2 : Inv X pins σ H { s with heap := h', toks := tk } := I.kept (t' := tk) a1
  have hpn : H p = none := I.hok.fresh hp
  have rvT : Vals (Ts.map V.ref) acc.toList := by rw [eT]; exact vals_refs _
  have I3 : Inv X pins σ (upd H p (.lst (Ts.map V.ref))) { s with heap := h', toks := tk } :=
    I2.take (h' := h') (t' := tk) (fun b ob _ e => e) (I.fpOk hp hpn) ⟨by rw [List.length_map, hlen]; omega, acc.toList, c, rvT, by rw [Array.toArray_toList]; exact a2⟩
  have at_ : ∀ (j : Nat) (T : Addr), Ts[j]? = some T → ∃ x y x1 x2, xs[j]? = some x ∧ ys[j]? = some y ∧ RelV x x1 ∧ RelV y x2 ∧ h'.get? T = some { cls := .type "tuple", data := .seq #[x1, x2] } := fun j T hj => by
    have hj2 : acc.toList[j]? = some (.ref T) := by rw [eT, List.getElem?_map, hj]; rfl
    obtain ⟨T', x1, x2, e, p1, p2, hT⟩ := a4 j _ hj2
    cases e
    have g : ∀ {xs : List V} {its : List Value} {v : Value}, Vals xs its → its[j]? = some v → ∃ x, xs[j]? = some x ∧ RelV x v := fun {xs its v} r e => by
      have hl : xs.length = its.length := r.length
      have hi := (List.getElem?_eq_some_iff.mp e).1
      obtain ⟨u, hu, ru⟩ := r.get (List.getElem?_eq_getElem (show j < xs.length by omega))
      rw [e] at hu
      cases hu
      exact ⟨_, List.getElem?_eq_getElem (by omega), ru⟩
    obtain ⟨x, hx, rx⟩ := g rv (by simpa using p1)
    obtain ⟨y, hy, ry⟩ := g rv2 (by simpa using p2)
    exact ⟨x, y, x1, x2, hx, hy, rx, ry, hT⟩
  obtain ⟨H2, I4, gr, qt⟩ := L2.DX.takeT (P := fun T vs => ∀ (j : Nat), Ts[j]? = some T → ∃ x y, xs[j]? = some x ∧ ys[j]? = some y ∧ vs = [x, y]) I Ts _ I3 nd fun T hT => by
    obtain ⟨j, hj⟩ := List.mem_iff_getElem?.mp hT
    obtain ⟨x, y, x1, x2, hx, hy, rx, ry, hg⟩ := at_ j T hj
    have hle : s.heap.objs.size ≤ T := Nat.le_of_lt (Nat.lt_of_le_of_lt hp (hgt T hT))
    refine ⟨hle, by rw [upd_ne (Nat.ne_of_gt (hgt T hT))]; exact I.hok.fresh hle, [x, y], fun i hi => ?_, fun H3 => ⟨by rw [sizeLine_eq]; show 2 ≤ 16777216; omega, [x1, x2], .cons rx (.cons ry .nil), ⟨_, hg, rfl, _, rfl⟩⟩⟩
    have e : i = j := (List.getElem?_inj (List.getElem?_eq_some_iff.mp hi).1 nd).mp (hi.trans hj.symm)
    subst e
    exact ⟨x, y, hx, hy, rfl⟩
  refine ⟨.ref p, H2, I4, rfl, q H2 p Ts (fun b o e => gr b o (by rw [upd_ne (ne_of_none e hpn)]; exact e)) (fun T hT => ?_) (gr _ _ upd_same) hlen fun j T hj => ?_⟩
  · rcases List.mem_cons.mp hT with rfl | hT
    · exact hpn
    · exact I.hok.fresh (Nat.le_of_lt (Nat.lt_of_le_of_lt hp (hgt T hT)))
  · obtain ⟨vs, hP, hH⟩ := qt T (List.mem_of_getElem? hj)
    obtain ⟨x, y, hx, hy, rfl⟩ := hP j hj
    exact ⟨x, y, hx, hy, hH⟩
section
variable {M : Mo} {S : Fix} {e e2 : Expr} {fs : Env → W (List D)} {p p2 q pos : Pos}
theorem v_listzip (ha : EvAV M S [e, e2] fs) (hf : decide (("list" : Str) ∈ M.free) = true := by kernel_rfl) (hf2 : decide (("zip" : Str) ∈ M.free) = true := by kernel_rfl) (hg : S.sc.names.lookup ("list" : Str) = some .globalImplicit := by kernel_rfl) (hg2 : S.sc.names.lookup ("zip" : Str) = some .globalImplicit := by kernel_rfl)
    (hs : ∀ env, starEach [e, e2] env = (false, eval e env) :: starEach [e2] env := by intro _; kernel_rfl) (hpl : ∀ env, (backTo q (starEach [e2] env)).any (·.1) = false := by intro _; kernel_rfl)
    (na : ∀ env, starEach [.Call (.Name "zip" p2) [e, e2] [] q] env = (false, eval (.Call (.Name "zip" p2) [e, e2] [] q) env) :: starEach [] env := by intro _; kernel_rfl) :
    EvV M S (.Call (.Name "list" p) [.Call (.Name "zip" p2) [e, e2] [] q] [] pos) fun ρ => (fs ρ).bind fun ds => (D.zip ds).bind fun r => W.pure (.lst r) := fun X G => by
  have core : PE X (.Call (.Name "list" p) [.Call (.Name "zip" p2) [e, e2] [] q] [] pos) (fun σ H Q => tAv X.K X.mg G.m fs σ H fun vs H1 => rLz X.K vs H1 Q) := by
    refine ⟨fun pins s σ H Q I h => ?_⟩
    refine Call_ (ld_blt I (gl_of G hg) (G.free _ (of_decide_eq_true hf)) boot_list ?_)
    refine PyProof.Rows.callWith_type1 (PyProof.Rows.args_cons ?_ (na _)) (na _) rfl
    refine Call_ (ld_blt I (gl_of G hg2) (G.free _ (of_decide_eq_true hf2)) PyProof.Rows.boot_zip ?_)
    refine PyProof.Rows.callWith_type1 (thn ((ha X G).run q pins s σ H _ I h) fun us s1 ⟨vs, H1, I1, r1, q1⟩ => ?_) (hs _) (hpl _)
    obtain ⟨a, b, xs, ys, rfl, hq, q1⟩ := q1
    obtain ⟨u1, u2, rfl, r, r'⟩ := vals2 r1
    cases r
    cases r'
    have hh := I1.ok.hd G.calm
    rcases hq with ⟨hqx, hqy⟩ | ⟨hqx, hqy⟩
    · obtain ⟨its, rv, p1, hz1⟩ := I1.list hqx
      obtain ⟨its2, rv2, p2', _⟩ := I1.list hqy
      refine call_zip_2 p1.isList p2'.isList fun h' hz hTI hTO h1 h2 hsz hk => PyProof.Rows.args_nil ?_
      have la := p1.lt
      have lb := p2'.lt
      have Sp := zsep la lb
      have hsz' : h'.objs.size = s1.heap.objs.size + 5 := hsz
      have hh3 : X.A.in1.in1.in1.handled = none := hh
      have D1 := Draws.list (prog := X.prog) (w := X.w) hh3 s1.heap.objs.size a (Nat.ne_of_lt la) its.toArray
      have D2 := Draws.list (prog := X.prog) (w := X.w) hh3 (s1.heap.objs.size + 1) b (nea (.inl (Nat.lt_succ_of_lt lb))) its2.toArray
      have hmin : min its.toArray.size its2.toArray.size ≤ sizeLine := Nat.le_trans (Nat.min_le_left _ _) (by rw [List.size_toArray, ← rv.length]; exact hz1)
      refine PySem.W.pw_list_zip (s := { s1 with heap := h' }) hh Sp D1 D2 hmin
        ⟨hTI, ⟨h1, p1.isList.at fun o e => hk _ o e⟩, ⟨h2, p2'.isList.at fun o e => hk _ o e⟩, ⟨_, hTO⟩, .inl ⟨hz, _, _, hTO⟩⟩ hz s1.heap (fun b' o e => by have hb : @LT.lt Nat _ b' s1.heap.objs.size := Heap.lt_size e; exact ⟨nea (by omega), nea (by omega), nea (by omega), nea (by omega)⟩) (fun b' o e => hk b' o e) (fun b' hb => ?_) fun h'' tk acc c a1 a2 a3 a4 a5 a6 => ?_
      · show b' < h'.objs.size
        rw [hsz']
        rcases List.mem_append.mp hb with hb | hb
        · rcases List.mem_cons.mp hb with e | hb
          · rw [e]; exact Nat.lt_add_of_pos_right (by decide)
          · rw [List.mem_singleton.mp hb]; exact Nat.lt_of_lt_of_le la (Nat.le_add_right _ _)
        · rcases List.mem_cons.mp hb with e | hb
          · rw [e]; exact Nat.add_lt_add_left (by decide) _
          · rw [List.mem_singleton.mp hb]; exact Nat.lt_of_lt_of_le lb (Nat.le_add_right _ _)
      · exact lz_fin (a := a) (b := b) I1 rv rv2 hz1 q1 a1 (by show s1.heap.objs.size ≤ h'.objs.size; rw [hsz']; exact Nat.le_add_right _ _) a2 a3 a4 a5 a6
    · obtain ⟨its, rv, p1, hz1⟩ := I1.tuple hqx
      obtain ⟨its2, rv2, p2', _⟩ := I1.tuple hqy
      have p1 : s1.heap.IsTuple a its.toArray := p1
      have p2' : s1.heap.IsTuple b its2.toArray := p2'
      refine RZ.call_zipT p1 p2' fun h' hz hTI hTO h1 h2 hsz hk => PyProof.Rows.args_nil ?_
      have la : a < s1.heap.objs.size := by obtain ⟨_, e, _⟩ := p1; exact Heap.lt_size e
      have lb : b < s1.heap.objs.size := by obtain ⟨_, e, _⟩ := p2'; exact Heap.lt_size e
      have Sp := zsep la lb
      have hsz' : h'.objs.size = s1.heap.objs.size + 5 := hsz
      have hh3 : X.A.in1.in1.in1.handled = none := hh
      have D1 := Draws.tuple (prog := X.prog) (w := X.w) hh3 s1.heap.objs.size a (Nat.ne_of_lt la) its.toArray
      have D2 := Draws.tuple (prog := X.prog) (w := X.w) hh3 (s1.heap.objs.size + 1) b (nea (.inl (Nat.lt_succ_of_lt lb))) its2.toArray
      have hmin : min its.toArray.size its2.toArray.size ≤ sizeLine := Nat.le_trans (Nat.min_le_left _ _) (by rw [List.size_toArray, ← rv.length]; exact hz1)
      refine PySem.W.pw_list_zip (s := { s1 with heap := h' }) hh Sp D1 D2 hmin
        ⟨hTI, ⟨h1, p1.at fun o e => hk _ o e⟩, ⟨h2, p2'.at fun o e => hk _ o e⟩, ⟨_, hTO⟩, .inl ⟨hz, _, _, hTO⟩⟩ hz s1.heap (fun b' o e => by have hb : @LT.lt Nat _ b' s1.heap.objs.size := Heap.lt_size e; exact ⟨nea (by omega), nea (by omega), nea (by omega), nea (by omega)⟩) (fun b' o e => hk b' o e) (fun b' hb => ?_) fun h'' tk acc c a1 a2 a3 a4 a5 a6 => ?_
      · show b' < h'.objs.size
        rw [hsz']
        rcases List.mem_append.mp hb with hb | hb
        · rcases List.mem_cons.mp hb with e | hb
          · rw [e]; exact Nat.lt_add_of_pos_right (by decide)
          · rw [List.mem_singleton.mp hb]; exact Nat.lt_of_lt_of_le la (Nat.le_add_right _ _)
        · rcases List.mem_cons.mp hb with e | hb
          · rw [e]; exact Nat.add_lt_add_left (by decide) _
          · rw [List.mem_singleton.mp hb]; exact Nat.lt_of_lt_of_le lb (Nat.le_add_right _ _)
      · exact lz_fin (a := a) (b := b) I1 rv rv2 hz1 q1 a1 (by show s1.heap.objs.size ≤ h'.objs.size; rw [hsz']; exact Nat.le_add_right _ _) a2 a3 a4 a5 a6
  refine core.impW fun σ H Q fc ⟨z0, H0, z, ρ, E, h⟩ => ⟨z0, H0, z, ρ, E, (fs ρ).mono (fun ds k vs z1 H1 st1 fc1 r1 => ?_) h⟩
  have fin : ∀ {xs ys : List V} {ds es : List D}, RpL X.K X.mg z1 xs ds → RpL X.K X.mg z1 ys es → kV X.K X.mg z H Q (.lst (zipD ds es)) → ∀ (H2 : Hp) (p : Addr) (Ts : List Addr), (∀ b o, H1 b = some o → H2 b = some o) → (∀ T ∈ p :: Ts, H1 T = none) → H2 p = some (.lst (Ts.map V.ref)) → Ts.length = min xs.length ys.length →
      (∀ (j : Nat) (T : Addr), Ts[j]? = some T → ∃ x y, xs[j]? = some x ∧ ys[j]? = some y ∧ H2 T = some (.tup [x, y])) → Fct X.K H2 → Q (.ref p) H2 := fun {xs ys ds es} ra rb k H2 p Ts g hn hp hlen hat fc2 => by
    obtain ⟨z2, st2, f2⟩ := Step.grow st1.ok g (p :: Ts) hn
    refine k _ z2 H2 (st1.trans st2) fc2 (.lst (f2 p List.mem_cons_self _ hp trivial) ?_)
    have hl : (zipD ds es).length = Ts.length := by rw [zipD_len, hlen, ra.length, rb.length]
    have hget : ∀ (j : Nat) (T : Addr), Ts[j]? = some T → ∃ d, (zipD ds es)[j]? = some d ∧ Rp X.K X.mg z2 (.ref T) d := fun j T hj => by
      obtain ⟨x, y, hx, hy, hT⟩ := hat j T hj
      obtain ⟨d, e1, r1⟩ := ra.getV hx
      obtain ⟨e, e2, r2⟩ := rb.getV hy
      exact ⟨_, zipD_get e1 e2, .tup (f2 T (List.mem_cons_of_mem _ (List.mem_of_getElem? hj)) _ hT trivial) (.cons (r1.le st2.le) (.cons (r2.le st2.le) .nil))⟩
    generalize zipD ds es = l at hl hget
    exact rpL_of hl hget
  have k : ((D.zip ds).bind fun r => W.pure (D.lst r)).run (kV X.K X.mg z H Q) := k
  unfold D.zip at k
  split at k
  · obtain ⟨v, u, rfl, r, r'⟩ := r1.two
    cases r with
    | tup hf r =>
      cases r' with
      | tup hf' r' => exact ⟨_, _, _, _, rfl, .inr ⟨.of (st1.ok.sub _ _ hf), .of (st1.ok.sub _ _ hf')⟩, fin r r' k⟩
  · obtain ⟨v, u, rfl, r, r'⟩ := r1.two
    cases r with
    | lst hf r =>
      cases r' with
      | lst hf' r' => exact ⟨_, _, _, _, rfl, .inl ⟨.of (st1.ok.sub _ _ hf), .of (st1.ok.sub _ _ hf')⟩, fin r r' k⟩
  · exact (show False from k).elim
end
end PW

set_option Elab.async false
set_option linter.all false
set_option maxRecDepth 100000
set_option maxHeartbeats 1000000
namespace PW
open PySem PySem.Spec PyProof.Rows L2
/-! ### the bag of draws: its reads tell any numbers that keep its promise -/
def binv (k j : Int) : Prop := 0 ≤ j ∧ (k = 1 → j < 2147483648)
def D.bagI (k : Int) : D → W D
  | .bag => W.fa (fun j : Int => binv k j) D.int
  | _ => W.fail
def D.bagC : D → W D
  | .bag => W.fa (fun cs : List Int => (∀ x ∈ cs, (0 : Int) ≤ x) ∧ cs.length ≤ 63) fun cs => .lst (cs.map D.int)
  | _ => W.fail
def D.bagSet (k : Int) : D → D → W Unit
  | .bag, .int j => W.need (binv k j)
  | _, _ => W.fail
theorem rpl_ints {K : PySem.W.Frag} {mg : Str → Option Value} {z : Z} : ∀ cs : List Int, RpL K mg z (cs.map V.int) (cs.map D.int)
  | [] => .nil
  | c :: cs => .cons (.int c) (rpl_ints cs)
section
variable {K : PySem.W.Frag} {mg : Str → Option Value} {z : Z} {H : Hp} {a : Addr}
theorem RB.bag {v : V} (h : RB K mg z H v .bag) : ∃ a c, v = .ref a ∧ z.bg a c := by
  rcases h with h | ⟨_, _, _, _, _, c⟩
  · cases h with
    | bag h => exact ⟨_, _, rfl, h⟩
  · cases c
theorem RB.scr {v : V} (ok : ZOk K z H) (h : RB K mg z H v .scr) : ∃ (a : Addr) (ns : List Int), v = .ref a ∧ ns.length ≤ 63 ∧ SqL K H a (ns.map V.int) := by
  rcases h with h | ⟨_, _, _, _, _, c⟩
  · cases h with
    | scr n h => exact ⟨_, _, rfl, n, ok.sub.seq h⟩
  · cases c
theorem Step.bagset (ok : ZOk K z H) {c : Addr} (hb : z.bg a c) {b0 b1 b2 : Int} {cs : List Int} (h2 : z.f c = some (.lst (cs.map V.int))) (h3 : 0 ≤ b0) (h4 : 0 ≤ b1 ∧ b1 < 2147483648) (h5 : 0 ≤ b2) (h6 : (∀ x ∈ cs, (0 : Int) ≤ x) ∧ cs.length ≤ 63) :
    Step K z H z (upd H a (.lst [.int b0, .int b1, .int b2, .ref c])) := by
  have hf := (ok.bag.bag hb).1
  refine ⟨Z.le.refl z, ⟨fun b o e => ?_, fun a' e => ?_, ok.nb⟩, fun b o h1 h2 _ => ?_, fun b o h1 _ _ => h1, fun b h => .inl h⟩
  · rw [upd_ne (ne_of_none e hf)]
    exact ok.sub b o e
  · by_cases q : a' = a
    · subst q
      obtain ⟨_, _, _, _, _, q2, _⟩ := ok.bag.bag hb
      refine ⟨hf, fun c' hc' => ?_, fun q e => ?_⟩
      · obtain ⟨_, _, _, _, _, q3, _⟩ := ok.bag.bag hc'
        rw [q2] at q3
        cases q3
        exact ⟨b0, b1, b2, cs, upd_same, h2, h3, h4, h5, h6⟩
      · obtain ⟨_, q1, _⟩ := ok.bag.tab e
        rw [q2] at q1
        cases q1
    · obtain ⟨f0, x1, x2⟩ := ok.bag a' e
      exact ⟨f0, fun c x => (x1 c x).le (Same.refl _) fun o z => by rw [upd_ne q]; exact z, fun q' x => (x2 q' x).le (Same.refl _) fun o z => by rw [upd_ne q]; exact z⟩
  · rw [upd_ne (by intro q; exact h1 (by rw [q]; exact .inl ⟨_, hb⟩))]
    exact h2
end
section
variable {M : Mo} {S : Fix} {a b e : Expr} {es : List Expr} {f g : Env → W D} {fs : Env → W (List D)} {pos p p2 : Pos} {j : Nat}
theorem v_bagI {k : Int} (hk : k = 0 ∨ k = 1 ∨ k = 2) (ha : EvB M S a f) : EvV M S (.Subscript a (.Constant (.int k) j p) pos) fun ρ => (f ρ).bind (D.bagI k) := fun X G => by
  refine (pe_ix (ix_seq) (ha X G) (v_int (M := M) (S := S) (i := k) (j := j) X G) (by intro _ _; rfl)).impW fun σ H Q fc ⟨z0, H0, z, ρ, E, h⟩ => ?_
  refine ⟨z0, H0, z, ρ, E, (f ρ).mono (fun d k' x z1 H1 st1 fc1 r1 => ?_) h⟩
  refine ⟨z0, H0, z1, ρ, E.step st1, fun y z2 H2 st2 fc2 r2 => ?_⟩
  cases d <;> try exact (show False from k').elim
  obtain ⟨a, c, rfl, hb⟩ := (r1.step st2).bag
  obtain ⟨f0, b0, b1, b2, cs, h1, h2, h3, h4, h5, h6⟩ := st2.ok.bag.bag hb
  cases r2
  rcases hk with rfl | rfl | rfl
  · exact .inl ⟨a, _, 0, _, rfl, rfl, .inl (.inl h1), rfl, fun _ => k' b0 ⟨h3, fun e => by omega⟩ _ z2 H2 (st1.trans st2) fc2 (.int _)⟩
  · exact .inl ⟨a, _, 1, _, rfl, rfl, .inl (.inl h1), rfl, fun _ => k' b1 ⟨h4.1, fun e => h4.2⟩ _ z2 H2 (st1.trans st2) fc2 (.int _)⟩
  · exact .inl ⟨a, _, 2, _, rfl, rfl, .inl (.inl h1), rfl, fun _ => k' b2 ⟨h5, fun e => by omega⟩ _ z2 H2 (st1.trans st2) fc2 (.int _)⟩
theorem v_bagC (ha : EvB M S a f) : EvV M S (.Subscript a (.Constant (.int 3) j p) pos) fun ρ => (f ρ).bind D.bagC := fun X G => by
  refine (pe_ix (ix_seq) (ha X G) (v_int (M := M) (S := S) (i := 3) (j := j) X G) (by intro _ _; rfl)).impW fun σ H Q fc ⟨z0, H0, z, ρ, E, h⟩ => ?_
  refine ⟨z0, H0, z, ρ, E, (f ρ).mono (fun d k' x z1 H1 st1 fc1 r1 => ?_) h⟩
  refine ⟨z0, H0, z1, ρ, E.step st1, fun y z2 H2 st2 fc2 r2 => ?_⟩
  cases d <;> try exact (show False from k').elim
  obtain ⟨a, c, rfl, hb⟩ := (r1.step st2).bag
  obtain ⟨f0, b0, b1, b2, cs, h1, h2, h3, h4, h5, h6⟩ := st2.ok.bag.bag hb
  cases r2
  exact .inl ⟨a, _, 3, _, rfl, rfl, .inl (.inl h1), rfl, fun _ => k' cs h6 _ z2 H2 (st1.trans st2) fc2 (.lst h2 (rpl_ints cs))⟩
theorem v_pow {i k : Int} {j2 : Nat} (h : CPow i k) : EvV M S (.BinOp (.Constant (.int i) j p) .Pow (.Constant (.int k) j2 p2) pos) fun _ => W.pure (.int (i ^ k.toNat)) := fun X G => by
  refine (pe_op op_pow pe_int pe_int).impW fun σ H Q fc ⟨z0, H0, z, ρ, E, hh⟩ => ?_
  exact ⟨i, k, rfl, rfl, h, fun _ => hh _ z H (Step.refl E.ok) fc (.int _)⟩
/-- o[k] = e of the bag -/
theorem s_bagset {k : Int} {pt : Pos} (hk : k = 0 ∨ k = 1 ∨ k = 2) (ha : EvB M S a f) (he : EvV M S e g) (hsa : ∀ env v, assign (.Subscript a (.Constant (.int k) j p) pt) env v = (do
      let ov ← holding [v] (eval a env)
      let iv ← holding [v, ov] (eval (.Constant (.int k) j p) env)
      standAt pt
      holding [v, ov, iv] (setItem ov iv v)
      release [v, ov, iv] []) := by intro _ _; kernel_rfl) (hs : ∀ env : PySem.Env, env.scope = S.sc → swapsWithSole [.Subscript a (.Constant (.int k) j p) pt] e pos.line env = pure false := by intro env he; cases env; cases he; kernel_rfl) (hw : ∀ env : PySem.Env, env.scope = S.sc → swappedStores [.Subscript a (.Constant (.int k) j p) pt] e env = pure none := by intro env he; cases env; cases he; kernel_rfl)
    (h1 : ∀ env, (assignEach [.Subscript a (.Constant (.int k) j p) pt] env).map (·.2) = [assign (.Subscript a (.Constant (.int k) j p) pt) env] := by intro _; kernel_rfl) :
    EvS M S (.Assign [.Subscript a (.Constant (.int k) j p) pt] e pos) fun ρ => (g ρ).bind fun d => (f ρ).bind fun c => (D.bagSet k c d).bind fun _ => W.pure (.nx ρ) := fun X G => by
  refine (ps_asg (he X G) (pg_sub (ha X G) (v_int (M := M) (S := S) (i := k) (j := j) X G) set_list (hsa _)) (hs _ G.sc) (hw _ G.sc) (h1 _)).impW fun Dn σ H fc ⟨z0, H0, z, ρ, E, h⟩ => ?_
  refine ⟨z0, H0, z, ρ, E, (g ρ).mono (fun d kk v1 z1 H1 st1 fc1 r1 => ?_) h⟩
  refine ⟨z0, H0, z1, ρ, E.step st1, (f ρ).mono (fun c kk v2 z2 H2 st2 fc2 r2 => ?_) kk⟩
  refine ⟨z0, H0, z2, ρ, (E.step st1).step st2, fun y z3 H3 st3 fc3 r3 => ?_⟩
  cases c <;> try exact (show False from kk).elim
  obtain ⟨jv, rfl⟩ : ∃ jv, d = .int jv := by
    cases d <;> first
      | exact ⟨_, rfl⟩
      | exact (show False from kk).elim
  have kk : binv k jv ∧ kS X.K X.mg G.m z0 H0 z Dn (.nx ρ) := kk
  have hz := kk.1
  have hgo : ∀ σ z' H, Z.le z z' → EnvR G.m X.K X.mg z0 H0 z' H σ ρ → Dn.nx σ H := kk.2
  obtain ⟨ad, cc, rfl, hb⟩ := (r2.step st3).bag
  obtain ⟨f0, b0, b1, b2, cs, q1, q2, q3, q4, q5, q6⟩ := st3.ok.bag.bag hb
  cases r3
  cases r1
  have le13 := (st1.le.trans st2.le).trans st3.le
  have E3 := ((E.step st1).step st2).step st3
  rcases hk with rfl | rfl | rfl
  · refine ⟨ad, _, 0, 0, rfl, rfl, q1, rfl, fun _ => ?_⟩
    have stp := Step.bagset st3.ok hb (b0 := jv) (b1 := b1) (b2 := b2) q2 hz.1 q4 q5 q6
    exact hgo _ z3 _ le13 (E3.step stp)
  · refine ⟨ad, _, 1, 1, rfl, rfl, q1, rfl, fun _ => ?_⟩
    have stp := Step.bagset st3.ok hb (b0 := b0) (b1 := jv) (b2 := b2) q2 q3 ⟨hz.1, hz.2 rfl⟩ q5 q6
    exact hgo _ z3 _ le13 (E3.step stp)
  · refine ⟨ad, _, 2, 2, rfl, rfl, q1, rfl, fun _ => ?_⟩
    have stp := Step.bagset st3.ok hb (b0 := b0) (b1 := b1) (b2 := jv) q2 q3 q4 hz.1 q6
    exact hgo _ z3 _ le13 (E3.step stp)
/-- o[k] of a list, 0 ≤ k -/
theorem get_list {X : Cx} : PGet X (fun x y H Q => ∃ p xs i v, x = .ref p ∧ y = .int i ∧ 0 ≤ i ∧ i < 2 ^ 63 ∧ SqL X.K H p xs ∧ xs[i.toNat]? = some v ∧ Q v H) := by
  intro pins s σ H x y v u Q I rx ry h
  obtain ⟨p, xs, i, z, rfl, rfl, h0, h1, hq, he, q⟩ := h
  cases rx
  obtain ⟨t, rfl⟩ := ry
  obtain ⟨its, r, pl, hz⟩ := I.list hq
  obtain ⟨w, ew, rw'⟩ := r.get he
  exact wpAny_getItem_list pl.isList h0 h1 (by simpa using ew) ⟨z, H, I, rw', q⟩
def D.isBag : D → W Unit
  | .bag => W.pure ()
  | _ => W.fail
def D.bagAdd : D → W Unit
  | .int j => W.need (0 ≤ j)
  | _ => W.fail
/-- bag[2] += e -/
theorem s_bagaug {pt : Pos} (ha : EvB M S a f) (he : EvV M S e g) :
    EvS M S (.AugAssign (.Subscript a (.Constant (.int 2) j p) pt) .Add e pos) fun ρ => (f ρ).bind fun c => c.isBag.bind fun _ => (g ρ).bind fun d => d.bagAdd.bind fun _ => W.pure (.nx ρ) := fun X G => by
  refine (ps_augS (ha X G) (v_int (M := M) (S := S) (i := 2) (j := j) X G) get_list (he X G) ip_add set_list).impW fun Dn σ H fc ⟨z0, H0, z, ρ, E, h⟩ => ?_
  refine ⟨z0, H0, z, ρ, E, (f ρ).mono (fun c kk v1 z1 H1 st1 fc1 r1 => ?_) h⟩
  refine ⟨z0, H0, z1, ρ, E.step st1, fun y z2 H2 st2 fc2 r2 => ?_⟩
  cases r2
  have E2 := (E.step st1).step st2
  cases c <;> try exact (show False from kk).elim
  obtain ⟨ad, cc, rfl, hb⟩ := (r1.step st2).bag
  obtain ⟨f0, b0, b1, b2, cs, q1, q2, q3, q4, q5, q6⟩ := st2.ok.bag.bag hb
  refine ⟨ad, _, 2, _, rfl, rfl, by omega, by omega, .inl (.inl q1), rfl, ?_⟩
  refine ⟨z0, H0, z2, ρ, E2, (g ρ).mono (fun d kk v3 z3 H3 st3 fc3 r3 => ?_) kk⟩
  cases d <;> try exact (show False from kk).elim
  obtain ⟨hz, kk⟩ := kk
  cases r3
  have hb3 := st3.le.bg _ _ hb
  obtain ⟨f0', b0', b1', b2', cs', q1', q2', q3', q4', q5', q6'⟩ := st3.ok.bag.bag hb3
  refine ⟨_, _, rfl, rfl, ad, _, 2, 2, rfl, rfl, q1', rfl, fun _ => ?_⟩
  have stp := Step.bagset st3.ok hb3 (b0 := b0') (b1 := b1') q2' q3' q4' (Int.add_nonneg q5 hz) q6'
  exact kk _ z3 _ ((st1.le.trans st2.le).trans st3.le) ((E2.step st3).step stp)
/-- the bag is made -/
def D.mkBag : List D → W D
  | [.int b0, .int b1, .int b2, .lst xs] => (W.some? (D.ints xs)).bind fun cs => (W.need (0 ≤ b0 ∧ (0 ≤ b1 ∧ b1 < 2147483648) ∧ 0 ≤ b2 ∧ (∀ x ∈ cs, (0 : Int) ≤ x) ∧ cs.length ≤ 63)).bind fun _ => W.pure .bag
  | _ => W.fail
theorem v_newbag (hs : EvAV M S es fs) : EvV M S (.List es pos) fun ρ => (fs ρ).bind D.mkBag := fun X G => by
  refine (pe_lst (hs X G)).impW fun σ H Q fc ⟨z0, H0, z, ρ, E, h⟩ => ?_
  refine ⟨z0, H0, z, ρ, E, (fs ρ).mono (fun ds k vs z1 H1 st1 fc1 r1 => ?_) h⟩
  have k : (D.mkBag ds).run (kV X.K X.mg z H Q) := k
  unfold D.mkBag at k
  split at k
  · rename_i b0 b1 b2 xs _
    obtain ⟨cs, e1, k⟩ := some_run k
    obtain ⟨⟨g0, g1, g2, g3, g4⟩, k⟩ := k
    cases r1 with
    | cons r0 r1 =>
    cases r0
    cases r1 with
    | cons r0 r1 =>
    cases r0
    cases r1 with
    | cons r0 r1 =>
    cases r0
    cases r1 with
    | cons r0 r1 =>
    cases r1
    cases r0 with
    | lst hf rl =>
    rename_i c vs
    have ev : vs = cs.map V.int := ints_eq rl e1
    subst ev
    refine ⟨by simp; unfold sizeLine; omega, fun p hp fc2 => ?_⟩
    refine k (.ref p) ⟨z1.f, fun b c' => z1.bg b c' ∨ (b = p ∧ c' = c), z1.tb⟩ _ (st1.trans ?_) fc2 (.bag (.inr ⟨rfl, rfl⟩))
    have hfp : z1.f p = none := st1.ok.free hp
    refine ⟨⟨Same.refl _, fun _ _ h => .inl h, rfl⟩, ⟨st1.ok.sub.trans (Same.put hp), fun b hb => ?_, st1.ok.nb⟩, fun b o _ e _ => Same.put hp b o e, fun b o h1 _ _ => h1, fun b hb => ?_⟩
    · by_cases q : b = p
      · subst q
        refine ⟨hfp, fun c' x => ?_, fun q e => ?_⟩
        · rcases x with x | ⟨_, rfl⟩
          · exact absurd hp (st1.ok.bag.there (.inl ⟨_, x⟩))
          · exact ⟨b0, b1, b2, cs, upd_same, hf, g0, g1, g2, g3, g4⟩
        · obtain ⟨_, q1, _⟩ := st1.ok.bag.tab e
          rw [hp] at q1
          cases q1
      · have hb' : z1.β b := by
          rcases hb with ⟨c', hb | hb⟩ | hb
          · exact .inl ⟨c', hb⟩
          · exact absurd hb.1 q
          · exact .inr hb
        obtain ⟨f0, x1, x2⟩ := st1.ok.bag b hb'
        refine ⟨f0, fun c' x => (x1 c' ?_).le (Same.refl _) fun o z => by rw [upd_ne q]; exact z, fun q' x => (x2 q' x).le (Same.refl _) fun o z => by rw [upd_ne q]; exact z⟩
        rcases x with x | x
        · exact x
        · exact absurd x.1 q
    · rcases hb with ⟨c', hb | hb⟩ | hb
      · exact .inl (.inl ⟨c', hb⟩)
      · exact .inr (by rw [hb.1]; exact fr_of hp)
      · exact .inl (.inr hb)
  · exact (show False from k).elim
def D.scr63 : D → W D
  | .scr => W.fa (fun ns : List Int => ns.length ≤ 63) fun ns => .lst (ns.map D.int)
  | _ => W.fail
theorem v_scr63 (ha : EvB M S a f) : EvV M S (.Subscript a (.Slice none (some (.Constant (.int 63) j p)) none p2) pos) fun ρ => (f ρ).bind D.scr63 := fun X G => by
  refine (pe_slice sl_list (ha X G) po_none (po_some (v_int (M := M) (S := S) (i := 63) (j := j) X G))).impW fun σ H Q fc ⟨z0, H0, z, ρ, E, h⟩ => ?_
  refine ⟨z0, H0, z, ρ, E, (f ρ).mono (fun d k x z1 H1 st1 fc1 r1 => ?_) h⟩
  refine ⟨z0, H0, z1, ρ, E.step st1, fun y z2 H2 st2 fc2 r2 => ?_⟩
  cases r2
  cases d <;> try exact (show False from k).elim
  obtain ⟨a, ns, rfl, hl, hq⟩ := (r1.step st2).scr st2.ok
  refine ⟨63, rfl, a, _, rfl, hq, fun p hp fc3 => ?_⟩
  have e : cutV (ns.map V.int) none (some 63) = (cutL ns none (some 63)).map V.int := by
    unfold cutV cutL
    rw [List.length_map, List.map_take, List.map_drop]
  rw [e] at fc3 ⊢
  exact kV_new (d := .lst ((cutL ns none (some 63)).map D.int)) (k _ (by show (cutL ns none (some 63)).length ≤ 63; unfold cutL; rw [List.length_take, List.length_drop]; omega)) (st1.trans st2) fc3 hp (.lst Z.put_at (rpl_ints _))
end
end PW

set_option Elab.async false
set_option linter.all false
set_option maxRecDepth 100000
set_option maxHeartbeats 1000000
namespace PW
open PySem PySem.Spec PyProof.Rows L2
/-! ### how the readings are computed -/
section
variable {α β γ : Type}
theorem W.ext_run {x y : W α} (h : ∀ Q, x.run Q ↔ y.run Q) : x = y := by
  obtain ⟨f, p⟩ := x
  obtain ⟨g, q⟩ := y
  have e : f = g := funext fun Q => propext (h Q)
  subst e
  rfl
theorem W.run_fa {ι : Type} (p : ι → Prop) (f : ι → α) (Q : α → Prop) : (W.fa p f).run Q = ∀ i, p i → Q (f i) := rfl
theorem W.run_ex {ι : Type} (f : ι → W α) (Q : α → Prop) : (W.ex f).run Q = ∃ i, (f i).run Q := rfl
theorem W.run_ite (c : Prop) [Decidable c] (x y : W α) (Q : α → Prop) : (if c then x else y).run Q = if c then x.run Q else y.run Q := by split <;> rfl
theorem W.pure_bind (a : α) (f : α → W β) : (W.pure a).bind f = f a := rfl
theorem W.fail_bind (f : α → W β) : (W.fail : W α).bind f = W.fail := rfl
theorem W.bind_assoc (x : W α) (f : α → W β) (g : β → W γ) : (x.bind f).bind g = x.bind fun a => (f a).bind g := rfl
theorem W.bind_pure (x : W α) : (x.bind fun a => W.pure a) = x := rfl
theorem W.some?_some (a : α) : W.some? (some a) = W.pure a := rfl
theorem W.ite_bind (c : Prop) [Decidable c] (x y : W α) (f : α → W β) : (if c then x else y).bind f = if c then x.bind f else y.bind f := by split <;> rfl
theorem W.ite_pure (c : Prop) [Decidable c] (x y : α) : (if c then W.pure x else W.pure y) = W.pure (if c then x else y) := by split <;> rfl
theorem W.need_bind {p : Prop} (h : p) (f : Unit → W α) : (W.need p).bind f = f () := W.ext_run fun Q => ⟨fun x => x.2, fun x => ⟨h, x⟩⟩
theorem W.need_true {p : Prop} (h : p) : W.need p = W.pure () := W.ext_run fun Q => ⟨fun x => x.2, fun x => ⟨h, x⟩⟩
/-- at least that -/
theorem W.ex_eq {ι : Type} {f : ι → W α} {a : α} (i : ι) (h : f i = W.pure a) {Q : α → Prop} (q : Q a) : (W.ex f).run Q := ⟨i, by rw [h]; exact q⟩
end
theorem getV_zero (d : D) (ρ : Env) : getV (some d :: ρ) 0 = W.pure d := rfl
theorem getV_succ (o : Option D) (ρ : Env) (i : Nat) : getV (o :: ρ) (i + 1) = getV ρ i := rfl
theorem D.eq_int (i j : Int) : D.eq (.int i) (.int j) = W.pure (.bl (decide (i = j))) := by
  have e : PyData.eqv (.int i) (.int j) = decide (i = j) := by
    simp only [PyData.eqv]
    by_cases h : i = j <;> simp [h]
  refine W.ext_run fun Q => ?_
  rw [← e]
  exact ⟨fun h => h.2.2, fun h => ⟨rfl, rfl, h⟩⟩
theorem D.ne_int (i j : Int) : D.ne (.int i) (.int j) = W.pure (.bl (!decide (i = j))) := by
  have e : PyData.eqv (.int i) (.int j) = decide (i = j) := by
    simp only [PyData.eqv]
    by_cases h : i = j <;> simp [h]
  refine W.ext_run fun Q => ?_
  rw [← e]
  exact ⟨fun h => h.2.2, fun h => ⟨rfl, rfl, h⟩⟩
theorem D.add_int (i j : Int) : D.add (.int i) (.int j) = W.pure (.int (i + j)) := rfl
theorem D.add_lst (x y : List D) : D.add (.lst x) (.lst y) = (W.need (x.length + y.length ≤ sizeLine)).bind fun _ => W.pure (.lst (x ++ y)) := rfl
theorem D.add_tup (x y : List D) : D.add (.tup x) (.tup y) = (W.need (x.length + y.length ≤ sizeLine)).bind fun _ => W.pure (.tup (x ++ y)) := rfl
theorem D.sub_int (i j : Int) : D.sub (.int i) (.int j) = W.pure (.int (i - j)) := rfl
theorem D.mul_int (i j : Int) : D.mul (.int i) (.int j) = (W.need (CMul i j)).bind fun _ => W.pure (.int (i * j)) := rfl
theorem D.mul_lst (x : List D) (k : Int) : D.mul (.lst x) (.int k) = (W.need (-(2 ^ 63) ≤ k ∧ k < 2 ^ 63 ∧ x.length * k.toNat ≤ sizeLine)).bind fun _ => W.pure (.lst (List.replicate k.toNat x).flatten) := rfl
theorem D.fdiv_int (i j : Int) : D.fdiv (.int i) (.int j) = (W.need (CDiv i j)).bind fun _ => W.pure (.int (i / j)) := rfl
theorem D.mod_int (i j : Int) : D.mod (.int i) (.int j) = (W.need (0 < j)).bind fun _ => W.pure (.int (i % j)) := rfl
theorem D.lt_int (i j : Int) : D.lt (.int i) (.int j) = W.pure (.bl (decide (i < j))) := rfl
theorem D.le_int (i j : Int) : D.le (.int i) (.int j) = W.pure (.bl (decide (i ≤ j))) := rfl
theorem D.gt_int (i j : Int) : D.gt (.int i) (.int j) = W.pure (.bl (decide (j < i))) := rfl
theorem D.ge_int (i j : Int) : D.ge (.int i) (.int j) = W.pure (.bl (decide (j ≤ i))) := rfl
theorem D.tr_bl (b : Bool) : D.tr (.bl b) = W.pure b := rfl
theorem D.truth_bl (b : Bool) : D.truth (.bl b) = W.pure b := rfl
theorem D.int1_int (i : Int) : D.int1 [.int i] = W.pure (.int i) := rfl
theorem D.int1_bl (b : Bool) : D.int1 [.bl b] = W.pure (.int (if b then 1 else 0)) := rfl
theorem D.asInt_int (i : Int) : D.asInt (.int i) = W.pure i := rfl
theorem D.slice_lst (x : List D) (lo hi : Option Int) : D.slice (.lst x) lo hi = W.pure (.lst (cutL x lo hi)) := rfl
theorem D.slice_tup (x : List D) (lo hi : Option Int) : D.slice (.tup x) lo hi = W.pure (.tup (cutL x lo hi)) := rfl
theorem D.ix_lst (x : List D) (i : Int) : D.ix (.lst x) (.int i) = W.some? (atI x i) := rfl
theorem D.ix_tup (x : List D) (i : Int) : D.ix (.tup x) (.int i) = W.some? (atI x i) := rfl
theorem D.bagI_bag (k : Int) : D.bagI k .bag = W.fa (fun j : Int => binv k j) D.int := rfl
theorem D.bagC_bag : D.bagC .bag = W.fa (fun cs : List Int => (∀ x ∈ cs, (0 : Int) ≤ x) ∧ cs.length ≤ 63) fun cs => .lst (cs.map D.int) := rfl
theorem D.bagSet_bag (k j : Int) : D.bagSet k .bag (.int j) = W.need (binv k j) := rfl
theorem D.bagAdd_int (j : Int) : D.bagAdd (.int j) = W.need (0 ≤ j) := rfl
theorem D.isBag_bag : D.isBag .bag = W.pure () := rfl
theorem D.len_lst (x : List D) : D.len [.lst x] = W.pure (.int x.length) := rfl
theorem D.len_tup (x : List D) : D.len [.tup x] = W.pure (.int x.length) := rfl
theorem D.min_int (i j : Int) : D.min [.int i, .int j] = W.pure (.int (if j < i then j else i)) := rfl
theorem D.max_int (i j : Int) : D.max [.int i, .int j] = W.pure (.int (if j > i then j else i)) := rfl
theorem D.abs_int (i : Int) : D.abs [.int i] = W.pure (.int (if i < 0 then -i else i)) := rfl
theorem D.neg_int (i : Int) : D.neg (.int i) = W.pure (.int (-i)) := rfl
theorem D.tuple_lst (x : List D) : D.tuple [.lst x] = W.pure (.tup x) := rfl
theorem D.tuple_tup (x : List D) : D.tuple [.tup x] = W.pure (.tup x) := rfl
theorem D.iter_lst (x : List D) : D.iter (.lst x) = W.pure x := rfl
theorem D.iter_tup (x : List D) : D.iter (.tup x) = W.pure x := rfl
theorem D.items_lst (x : List D) : D.items (.lst x) = W.pure x := rfl
theorem D.items_tup (x : List D) : D.items (.tup x) = W.pure x := rfl
theorem D.rev_lst (x : List D) : D.rev (.lst x) = W.pure (.lst x.reverse) := rfl
theorem atI_nn {α : Type} (xs : List α) {i : Int} (h : 0 ≤ i) : atI xs i = xs[i.toNat]? := by
  unfold atI ixN
  rw [if_pos h]
  by_cases h1 : i < (xs.length : Int)
  · rw [if_pos h1]
    rfl
  · rw [if_neg h1]
    rw [List.getElem?_eq_none (by omega)]
    rfl
theorem atI_nat {α : Type} (xs : List α) (i : Nat) : atI xs (i : Int) = xs[i]? := by
  rw [atI_nn xs (by omega)]
  rfl
theorem atI_zero {α : Type} (a : α) (as : List α) : atI (a :: as) 0 = some a := atI_nn _ (by decide)
theorem atI_one {α : Type} (a b : α) (as : List α) : atI (a :: b :: as) 1 = some b := atI_nn _ (by decide)
theorem atI_two {α : Type} (a b c : α) (as : List α) : atI (a :: b :: c :: as) 2 = some c := atI_nn _ (by decide)
theorem atI_three {α : Type} (a b c d : α) (as : List α) : atI (a :: b :: c :: d :: as) 3 = some d := atI_nn _ (by decide)
theorem atI_four {α : Type} (a b c d e : α) (as : List α) : atI (a :: b :: c :: d :: e :: as) 4 = some e := atI_nn _ (by decide)
theorem atI_neg1 {α : Type} (xs : List α) : atI xs (-1) = xs.getLast? := by
  unfold atI ixN
  rw [if_neg (by decide)]
  cases xs with
  | nil => rfl
  | cons a as =>
    rw [if_pos (by simp; omega), List.getLast?_eq_getElem?]
    show (a :: as)[_]? = _
    congr 1
    simp
    omega
theorem D.asLst_lst (x : List D) : D.asLst (.lst x) = W.pure x := rfl
theorem setAll_nil (ρ : Env) : setAll [] [] ρ = W.pure ρ := rfl
theorem setAll_cons (i : Nat) (is : List Nat) (d : D) (ds : List D) (ρ : Env) : setAll (i :: is) (d :: ds) ρ = setAll is ds (ρ.set i (some d)) := rfl
theorem Tgt.set_nm (i : Nat) (d : D) (ρ : Env) : Tgt.set (.nm i) d ρ = W.pure (ρ.set i (some d)) := rfl
theorem Tgt.set_tp (is : List Nat) (ds : List D) (ρ : Env) : Tgt.set (.tp is) (.tup ds) ρ = setAll is ds ρ := rfl
theorem fin_rt (d : D) : Out.fin (.rt d) = W.pure d := rfl
theorem fin_nx (ρ : Env) : Out.fin (.nx ρ) = W.pure .non := rfl
end PW

set_option Elab.async false
set_option linter.all false
set_option maxRecDepth 100000
set_option maxHeartbeats 1000000
namespace PW
open PySem PySem.Spec PyProof.Rows L2
/-! ### comprehensions over typed lists -/
section
variable {α β : Type} {p p1 : Env → W Bool} {f : Env → W D} {fi fi1 : Env → W (List D)} {ρ ρ' : Env} {i j : Nat} {vs vs1 : List Nat}
theorem comp_all {t : Tgt} (xs : List α) (e : α → D) (st : α → Env) (pb : α → Bool) (g : α → D) (ht : ∀ x ∈ xs, t.set (e x) ρ = W.pure (st x)) (hp : ∀ x ∈ xs, p (st x) = W.pure (pb x)) (hf : ∀ x ∈ xs, pb x = true → f (st x) = W.pure (g x)) (acc : List D) :
    compW t p f (xs.map e) ρ acc = W.pure (acc ++ (xs.filter pb).map g) := by
  induction xs generalizing acc with
  | nil => simp [compW]
  | cons x xs ih =>
    have ih := ih (fun y hy => ht y (List.mem_cons_of_mem _ hy)) (fun y hy => hp y (List.mem_cons_of_mem _ hy)) (fun y hy => hf y (List.mem_cons_of_mem _ hy))
    rw [List.map_cons, compW, ht x List.mem_cons_self, W.pure_bind, hp x List.mem_cons_self, W.pure_bind]
    cases q : pb x with
    | true =>
      rw [if_pos rfl, hf x List.mem_cons_self q, W.pure_bind, ih, List.filter_cons_of_pos q, List.map_cons, List.append_assoc]
      rfl
    | false =>
      rw [if_neg (by simp), ih, List.filter_cons_of_neg (by simp [q])]
theorem comp_nm (xs : List α) (e : α → D) (pb : α → Bool) (g : α → D) (hp : ∀ x ∈ xs, p (ρ.set i (some (e x))) = W.pure (pb x)) (hf : ∀ x ∈ xs, pb x = true → f (ρ.set i (some (e x))) = W.pure (g x)) (acc : List D) :
    compW (.nm i) p f (xs.map e) ρ acc = W.pure (acc ++ (xs.filter pb).map g) := comp_all xs e (fun x => ρ.set i (some (e x))) pb g (fun _ _ => rfl) hp hf acc
theorem comp_tp (xs : List α) (e1 e2 : α → D) (pb : α → Bool) (g : α → D) (hp : ∀ x ∈ xs, p ((ρ.set i (some (e1 x))).set j (some (e2 x))) = W.pure (pb x)) (hf : ∀ x ∈ xs, pb x = true → f ((ρ.set i (some (e1 x))).set j (some (e2 x))) = W.pure (g x)) (acc : List D) :
    compW (.tp [i, j]) p f (xs.map fun x => .tup [e1 x, e2 x]) ρ acc = W.pure (acc ++ (xs.filter pb).map g) := comp_all xs (fun x => .tup [e1 x, e2 x]) (fun x => (ρ.set i (some (e1 x))).set j (some (e2 x))) pb g (fun _ _ => rfl) hp hf acc
theorem lc_nm (xs : List α) (e : α → D) (pb : α → Bool) (g : α → D) (hi : fi ρ = W.pure (xs.map e)) (hw : wipeE ρ vs = ρ') (hp : ∀ x ∈ xs, p (ρ'.set i (some (e x))) = W.pure (pb x)) (hf : ∀ x ∈ xs, pb x = true → f (ρ'.set i (some (e x))) = W.pure (g x)) :
    lcW fi (.nm i) p f vs ρ = W.pure (.lst ((xs.filter pb).map g)) := by
  unfold lcW
  rw [hi, W.pure_bind, hw, comp_nm xs e pb g hp hf]
  rfl
theorem lc_map (xs : List α) (e : α → D) (g : α → D) (hi : fi ρ = W.pure (xs.map e)) (hw : wipeE ρ vs = ρ') (hf : ∀ x ∈ xs, f (ρ'.set i (some (e x))) = W.pure (g x)) :
    lcW fi (.nm i) (fun _ => W.pure true) f vs ρ = W.pure (.lst (xs.map g)) := by
  rw [lc_nm xs e (fun _ => true) g hi hw (fun _ _ => rfl) (fun x hx _ => hf x hx), List.filter_eq_self.mpr fun _ _ => rfl]
theorem lc_tp (xs : List α) (e1 e2 : α → D) (pb : α → Bool) (g : α → D) (hi : fi ρ = W.pure (xs.map fun x => .tup [e1 x, e2 x])) (hw : wipeE ρ vs = ρ') (hp : ∀ x ∈ xs, p ((ρ'.set i (some (e1 x))).set j (some (e2 x))) = W.pure (pb x)) (hf : ∀ x ∈ xs, pb x = true → f ((ρ'.set i (some (e1 x))).set j (some (e2 x))) = W.pure (g x)) :
    lcW fi (.tp [i, j]) p f vs ρ = W.pure (.lst ((xs.filter pb).map g)) := by
  unfold lcW
  rw [hi, W.pure_bind, hw, comp_tp xs e1 e2 pb g hp hf]
  rfl
theorem lc_tpmap (xs : List α) (e1 e2 : α → D) (g : α → D) (hi : fi ρ = W.pure (xs.map fun x => .tup [e1 x, e2 x])) (hw : wipeE ρ vs = ρ') (hf : ∀ x ∈ xs, f ((ρ'.set i (some (e1 x))).set j (some (e2 x))) = W.pure (g x)) :
    lcW fi (.tp [i, j]) (fun _ => W.pure true) f vs ρ = W.pure (.lst (xs.map g)) := by
  rw [lc_tp xs e1 e2 (fun _ => true) g hi hw (fun _ _ => rfl) (fun x hx _ => hf x hx), List.filter_eq_self.mpr fun _ _ => rfl]
/-- the inner of two -/
theorem compI_all {t : Tgt} (ys : List β) (e : β → D) (st : β → Env) (pb : β → Bool) (g : β → D) (ht : ∀ x ∈ ys, t.set (e x) ρ = W.pure (st x)) (hp : ∀ x ∈ ys, p (st x) = W.pure (pb x)) (hf : ∀ x ∈ ys, pb x = true → f (st x) = W.pure (g x)) (acc : List D) (hz : acc.length + ys.length ≤ sizeLine) :
    compI t p f (ys.map e) ρ acc = W.pure (acc ++ (ys.filter pb).map g) := by
  induction ys generalizing acc with
  | nil => simp [compI]
  | cons x xs ih =>
    have ih := ih (fun y hy => ht y (List.mem_cons_of_mem _ hy)) (fun y hy => hp y (List.mem_cons_of_mem _ hy)) (fun y hy => hf y (List.mem_cons_of_mem _ hy))
    rw [List.length_cons] at hz
    rw [List.map_cons, compI, ht x List.mem_cons_self, W.pure_bind, hp x List.mem_cons_self, W.pure_bind]
    cases q : pb x with
    | true =>
      rw [if_pos rfl, hf x List.mem_cons_self q, W.pure_bind, W.need_bind (by omega), ih _ (by rw [List.length_append, List.length_cons, List.length_nil]; omega), List.filter_cons_of_pos q, List.map_cons, List.append_assoc]
      rfl
    | false =>
      rw [if_neg (by simp), ih _ (by omega), List.filter_cons_of_neg (by simp [q])]
/-- [g(x, y) for x in xs for y in ys(x) if ..] with plain names -/
theorem lc2_nm (xs : List α) (e : α → D) (ys : α → List β) (e1 : β → D) (pb : α → β → Bool) (g : α → β → D) (hi : fi ρ = W.pure (xs.map e)) (hw : wipeE ρ vs = ρ') (hi1 : ∀ x ∈ xs, fi1 (ρ'.set i (some (e x))) = W.pure ((ys x).map e1))
    (st : α → Env) (hst : ∀ x ∈ xs, wipeE (ρ'.set i (some (e x))) vs1 = st x)
    (hp : ∀ x ∈ xs, ∀ y ∈ ys x, p1 ((st x).set j (some (e1 y))) = W.pure (pb x y)) (hf : ∀ x ∈ xs, ∀ y ∈ ys x, pb x y = true → f ((st x).set j (some (e1 y))) = W.pure (g x y))
    (hz : (xs.map fun x => (ys x).length).sum ≤ sizeLine) :
    lc2W fi (.nm i) (fun _ => W.pure true) fi1 vs1 (.nm j) p1 f vs ρ = W.pure (.lst (xs.flatMap fun x => ((ys x).filter (pb x)).map (g x))) := by
  unfold lc2W
  rw [hi, W.pure_bind, hw]
  have key : ∀ (xs' : List α) (acc : List D), (∀ x ∈ xs', x ∈ xs) → acc.length + (xs'.map fun x => (ys x).length).sum ≤ sizeLine → compO (.nm i) (fun _ => W.pure true) fi1 vs1 (.nm j) p1 f (xs'.map e) ρ' acc = W.pure (acc ++ xs'.flatMap fun x => ((ys x).filter (pb x)).map (g x)) := by
    intro xs'
    induction xs' with
    | nil => intro acc _ _; simp [compO]
    | cons x xs' ih =>
      intro acc hm hz
      have hx := hm x List.mem_cons_self
      rw [List.map_cons, List.sum_cons] at hz
      have hl : (acc ++ ((ys x).filter (pb x)).map (g x)).length ≤ acc.length + (ys x).length := by
        rw [List.length_append, List.length_map]
        have := List.length_filter_le (pb x) (ys x)
        omega
      rw [List.map_cons, compO, Tgt.set_nm, W.pure_bind, W.pure_bind, if_pos rfl, hi1 x hx, W.pure_bind, hst x hx, compI_all (ys x) e1 (fun y => (st x).set j (some (e1 y))) (pb x) (g x) (fun _ _ => rfl) (hp x hx) (hf x hx) acc (by omega), W.pure_bind,
        ih _ (fun y hy => hm y (List.mem_cons_of_mem _ hy)) (by omega), List.flatMap_cons, List.append_assoc]
  rw [key xs [] (fun _ h => h) (by rw [List.length_nil]; omega)]
  rfl
end
/-! ### loops -/
section
variable {α : Type} {b : Env → W Out} {t : Tgt}
/-- a for with an invariant -/
theorem for_inv {e : α → D} (I : List α → Env → Prop) (xs : List α) (ρ : Env) (h0 : I [] ρ)
    (hs : ∀ done x rest ρ, done ++ x :: rest = xs → I done ρ → ∃ ρ', ((t.set (e x) ρ).bind b = W.pure (.nx ρ') ∨ (t.set (e x) ρ).bind b = W.pure (.ct ρ')) ∧ I (done ++ [x]) ρ') :
    ∃ ρ', forW t b (xs.map e) ρ = W.pure (.nx ρ') ∧ I xs ρ' := by
  have key : ∀ (rest done : List α) (ρ : Env), done ++ rest = xs → I done ρ → ∃ ρ', forW t b (rest.map e) ρ = W.pure (.nx ρ') ∧ I xs ρ' := by
    intro rest
    induction rest with
    | nil => intro done ρ e1 h; rw [List.append_nil] at e1; subst e1; exact ⟨ρ, rfl, h⟩
    | cons x rest ih =>
      intro done ρ e1 h
      obtain ⟨ρ1, e2, h1⟩ := hs done x rest ρ e1 h
      obtain ⟨ρ2, e3, h2⟩ := ih (done ++ [x]) ρ1 (by rw [List.append_assoc]; exact e1) h1
      refine ⟨ρ2, ?_, h2⟩
      rw [List.map_cons, forW, ← e3]
      rw [← W.bind_assoc]
      rcases e2 with e2 | e2 <;> rw [e2] <;> rfl
  exact key xs [] ρ rfl h0
theorem for_bind {β : Type} {e : α → D} {k : Out → W β} {y : W β} (I : List α → Env → Prop) (xs : List α) (ρ : Env) (h0 : I [] ρ)
    (hs : ∀ done x rest ρ, done ++ x :: rest = xs → I done ρ → ∃ ρ', ((t.set (e x) ρ).bind b = W.pure (.nx ρ') ∨ (t.set (e x) ρ).bind b = W.pure (.ct ρ')) ∧ I (done ++ [x]) ρ') (hq : ∀ ρ', I xs ρ' → k (.nx ρ') = y) :
    (forW t b (xs.map e) ρ).bind k = y := by
  obtain ⟨ρ', h1, h2⟩ := for_inv I xs ρ h0 hs
  rw [h1, W.pure_bind]
  exact hq ρ' h2
theorem for_ex {P : Env → Prop} {e : α → D} {k : Out → W Out} (I : List α → Env → Prop) (xs : List α) (ρ : Env) (h0 : I [] ρ)
    (hs : ∀ done x rest ρ, done ++ x :: rest = xs → I done ρ → ∃ ρ', ((t.set (e x) ρ).bind b = W.pure (.nx ρ') ∨ (t.set (e x) ρ).bind b = W.pure (.ct ρ')) ∧ I (done ++ [x]) ρ')
    (hq : ∀ ρ', I xs ρ' → ∃ ρ2, (k (.nx ρ') = W.pure (.nx ρ2) ∨ k (.nx ρ') = W.pure (.ct ρ2)) ∧ P ρ2) :
    ∃ ρ2, ((forW t b (xs.map e) ρ).bind k = W.pure (.nx ρ2) ∨ (forW t b (xs.map e) ρ).bind k = W.pure (.ct ρ2)) ∧ P ρ2 := by
  obtain ⟨ρ', h1, h2⟩ := for_inv I xs ρ h0 hs
  rw [h1, W.pure_bind]
  exact hq ρ' h2
/-- a for in readings of what follows: each turn goes on, or gives its end -/
theorem for_run {e : α → D} (I : List α → Env → Prop) (xs : List α) (ρ : Env) (Q : Out → Prop) (h0 : I [] ρ)
    (hs : ∀ done x rest ρ, done ++ x :: rest = xs → I done ρ → ((t.set (e x) ρ).bind b).run fun o => match o with
      | .nx ρ' => I (done ++ [x]) ρ'
      | .ct ρ' => I (done ++ [x]) ρ'
      | .bk ρ' => Q (.nx ρ')
      | .rt d => Q (.rt d)) (hq : ∀ ρ, I xs ρ → Q (.nx ρ)) : (forW t b (xs.map e) ρ).run Q := by
  have key : ∀ (rest done : List α) (ρ : Env), done ++ rest = xs → I done ρ → (forW t b (rest.map e) ρ).run Q := by
    intro rest
    induction rest with
    | nil => intro done ρ e1 h; rw [List.append_nil] at e1; subst e1; exact hq ρ h
    | cons x rest ih =>
      intro done ρ e1 h
      rw [List.map_cons, forW, ← W.bind_assoc, W.run_bind]
      refine W.mono _ (fun o k => ?_) (hs done x rest ρ e1 h)
      cases o with
      | nx ρ' => exact ih (done ++ [x]) ρ' (by rw [List.append_assoc]; exact e1) k
      | ct ρ' => exact ih (done ++ [x]) ρ' (by rw [List.append_assoc]; exact e1) k
      | bk ρ' => exact k
      | rt d => exact k
  exact key xs [] ρ rfl h0
end
/-! ### the law's def -/
theorem fnok_def {M : Mo} {P : Program} {w : World} {K : PySem.W.Frag} {mg : Str → Option Value} {base : Heap} {tb : List (Addr × Str)} {x qual : Str} {params : Arguments} {body : List Stmt} {scope : Scope} {f : Addr} {fd : FuncData} {N ps : List Str} {mt : List Nat} {b : Env → W Out} (F : FunD K x qual params body scope [] [] f fd) (m : Mod0 M P w K mg base tb) (he : M.eps = eps0) (hb : EvSs M ⟨N, scope, fun _ => true, mt⟩ body b) (hS : C8.scC N ps scope = true)
    (hmt : (mt.all fun i => decide (ps.length ≤ i)) = true) (hN : ps.length ≤ N.length) (hlam : M.lam = true → LamAt K mg base fd.code (qual ++ ".<locals>.") tb := by intro h; exact Bool.noConfusion h) (hgd : M.gd = true → False := by intro h; exact Bool.noConfusion h) :
    FnOk P w K mg base CX0 (M.lv + 1) f fd ps (spW K mg tb fun _ => defW ps.length N.length b) := by
  have S := C8.fnScope_by hS
  obtain ⟨oc, od, dV, kV, doc, pm, an, cdv, ct, osl, rfl, lk, hcd, _, _⟩ := F.ex
  exact fn_of (CX := CX0) (k := M.lv) (sp := spW K mg tb fun _ => defW ps.length N.length b) lk hcd S (fun vs H Q E ⟨_, z, ds, ht, ok, r, h, _⟩ => by rw [r.length]; exact h.1) fun A outer s H vs Q E hr ⟨_, z, ds, ht, ok, r, h, _⟩ => by
    obtain ⟨hl, h⟩ := h
    obtain ⟨t, h1, h2⟩ := body_run (X := (cxOf CX0 P w K mg base N qual scope f cdv A outer s H E).nox) (good0 (mt := mt) m he S.nd hr hlam fun h => (hgd h).elim) hb ok ht r (by rw [hl]; exact hN) (fun i hi => by rw [hl]; exact of_decide_eq_true (List.all_eq_true.mp hmt i hi)) h
    exact ⟨t, h1.nox, h2⟩
/-- the law's start, with its tables of code objects -/
theorem sp_law {K : PySem.W.Frag} {mg : Str → Option Value} {tb : List (Addr × Str)} {Φ : Eps → List D → W D} (h : (Φ eps0 [.scr]).run fun d => d = .bl true) {H : Hp} {a : Addr} {ns : List Int} (hl : ns.length ≤ 63) (hS : SqL K H a (ns.map V.int)) (ht : ∀ p ∈ tb, H p.1 = some (.tbl #[])) (E : XK) : spW K mg tb Φ [.ref a] H (fun v _ => v = .bl true) E := by
  classical
  refine ⟨eps0, ⟨fun b => if ∃ o, H b = some o ∧ o.nb then H b else none, fun _ _ => False, tb⟩, [.scr], rfl, ⟨fun b o e => ?_, fun b e => ?_, fun b o e => ?_⟩, .cons (.scr hl ?_) .nil, (Φ eps0 _).mono (fun d e v z' H' st fc r => by subst e; cases r; rfl) h, fun _ _ _ q => (wx0 q).elim⟩
  · have e : (if ∃ o, H b = some o ∧ o.nb then H b else none) = some o := e
    split at e
    · exact e
    · cases e
  · rcases e with ⟨_, e⟩ | ⟨q, e⟩
    · exact e.elim
    · have e1 := ht _ e
      have e1 : H b = some (.tbl #[]) := e1
      refine ⟨?_, fun c x => x.elim, fun q' e' => ⟨#[], e1, True.intro, fun pos cv hc => ?_⟩⟩
      · show (if ∃ o, H b = some o ∧ o.nb then H b else none) = none
        rw [if_neg]
        intro ⟨o, h1, h2⟩
        rw [e1] at h1
        cases h1
        exact h2
      · exact absurd hc (by simp [codeAmong])
  · have e : (if ∃ o, H b = some o ∧ o.nb then H b else none) = some o := e
    split at e
    · rename_i hh
      obtain ⟨o2, h1, h2⟩ := hh
      rw [h1] at e
      cases e
      exact h2
    · cases e
  · rcases hS with (h | ⟨o, h⟩) | h
    · refine .inl (.inl ?_)
      show (if ∃ o, H a = some o ∧ o.nb then H a else none) = _
      rw [if_pos ⟨_, h, trivial⟩]; exact h
    · refine .inl (.inr ⟨o, ?_⟩)
      show (if ∃ o, H a = some o ∧ o.nb then H a else none) = _
      rw [if_pos ⟨_, h, trivial⟩]; exact h
    · exact .inr h
end PW

set_option Elab.async false
set_option linter.all false
set_option maxRecDepth 100000
set_option maxHeartbeats 1000000
namespace PW
open PySem PySem.Spec PyProof.Rows L2
open PySem.W (keyToks keyToksAll alike alikeAll dataLe dataLt)
/-! ### typed data as Python's -/
class Cod (α : Type) [DecidableEq α] where
  enc : α → D
  py : α → PyData
  tupk : Bool
  dep : Nat
  hpy : ∀ x, (enc x).py = some (py x)
  lay : ∀ x, (py x).canLay0 = true
  hdep : ∀ x, (py x).depth ≤ dep
  eqv : ∀ x y, PyData.eqv (py x) (py y) = decide (x = y)
  toks : ∀ x y r r', keyToks (py x) ++ r = keyToks (py y) ++ r' → x = y ∧ r = r'
  alk : ∀ x y, alike (py x) (py y) = true
  nn : ∀ x, py x ≠ .none
  tk1 : tupk = true → ∀ x, ∃ xs, py x = .tuple xs
  tk2 : tupk = false → ∀ x xs, py x ≠ .tuple xs
section
variable {α β : Type} [DecidableEq α] [Cod α] [DecidableEq β] [Cod β]
open Cod
theorem Cod.pyD (x : α) : PW.pyD (enc x) = py x := by unfold PW.pyD; rw [hpy]; rfl
theorem pyL_enc : ∀ xs : List α, pyL (xs.map enc) = some (xs.map py)
  | [] => rfl
  | x :: xs => by rw [List.map_cons, pyL, hpy, pyL_enc xs]; rfl
theorem lay_all : ∀ xs : List α, PyData.canLayAll0 (xs.map py) = true
  | [] => by simp [PyData.canLayAll0]
  | x :: xs => by rw [List.map_cons, PyData.canLayAll0, lay, lay_all xs]; rfl
theorem dep_all : ∀ xs : List α, PyData.depthAll (xs.map py) ≤ dep α
  | [] => by simp [PyData.depthAll]
  | x :: xs => by rw [List.map_cons, PyData.depthAll]; exact Nat.max_le.mpr ⟨hdep x, dep_all xs⟩
theorem eqv_all : ∀ xs ys : List α, PyData.eqvAll (xs.map py) (ys.map py) = decide (xs = ys)
  | [], [] => by simp [PyData.eqvAll]
  | [], _ :: _ => by simp [PyData.eqvAll]
  | _ :: _, [] => by simp [PyData.eqvAll]
  | x :: xs, y :: ys => by
    rw [List.map_cons, List.map_cons, PyData.eqvAll, eqv, eqv_all xs ys]
    by_cases h : x = y <;> by_cases h2 : xs = ys <;> simp [h, h2]
theorem toks_all : ∀ (xs ys : List α) (r r' : List (Int ⊕ List Nat)), keyToksAll (xs.map py) ++ r = keyToksAll (ys.map py) ++ r' → xs = ys ∧ r = r'
  | [], [], r, r', h => by simpa [keyToksAll] using h
  | [], y :: ys, r, r', h => by simp [keyToksAll] at h
  | x :: xs, [], r, r', h => by simp [keyToksAll] at h
  | x :: xs, y :: ys, r, r', h => by
    simp only [List.map_cons, keyToksAll, List.cons_append, List.append_assoc, List.cons.injEq, true_and] at h
    obtain ⟨e, h⟩ := toks _ _ _ _ h
    obtain ⟨e2, h⟩ := toks_all xs ys r r' h
    exact ⟨by rw [e, e2], h⟩
theorem alk_all : ∀ xs ys : List α, alikeAll (xs.map py) (ys.map py) = true
  | [], [] => by simp [alikeAll]
  | [], _ :: _ => by simp [alikeAll]
  | _ :: _, [] => by simp [alikeAll]
  | x :: xs, y :: ys => by rw [List.map_cons, List.map_cons, alikeAll, alk, alk_all xs ys]; rfl
end
instance : Cod Int where
  enc := .int
  py := .int
  tupk := false
  dep := 0
  hpy _ := rfl
  lay _ := by simp [PyData.canLay0]
  hdep _ := by simp [PyData.depth]
  eqv x y := by
    simp only [PyData.eqv]
    by_cases h : x = y <;> simp [h]
  toks x y r r' h := by simpa [keyToks] using h
  alk x y := by simp [alike]
  nn x := by simp
  tk1 h := by cases h
  tk2 _ x xs := by simp
section
variable {α β : Type} [DecidableEq α] [Cod α] [DecidableEq β] [Cod β]
open Cod
instance : Cod (List α) where
  enc xs := .tup (xs.map enc)
  py xs := .tuple (xs.map py)
  tupk := true
  dep := dep α + 1
  hpy xs := by rw [D.py, pyL_enc]; rfl
  lay xs := by rw [PyData.canLay0]; exact lay_all xs
  hdep xs := by rw [PyData.depth]; exact Nat.succ_le_succ (dep_all xs)
  eqv xs ys := by rw [PyData.eqv]; exact eqv_all xs ys
  toks xs ys r r' h := by rw [keyToks, keyToks] at h; exact toks_all xs ys r r' h
  alk xs ys := by rw [alike]; exact alk_all xs ys
  nn x := by simp
  tk1 _ x := ⟨_, rfl⟩
  tk2 h := by cases h
instance : Cod (α × β) where
  enc x := .tup [enc x.1, enc x.2]
  py x := .tuple [py x.1, py x.2]
  tupk := true
  dep := max (dep α) (dep β) + 1
  hpy x := by rw [D.py, pyL, hpy, pyL, hpy]; rfl
  lay x := by simp [PyData.canLay0, PyData.canLayAll0, lay]
  hdep x := by
    have h1 := hdep x.1
    have h2 := hdep x.2
    simp only [PyData.depth, PyData.depthAll]
    omega
  eqv x y := by
    obtain ⟨a, b⟩ := x
    obtain ⟨c, d⟩ := y
    rw [PyData.eqv, PyData.eqvAll, PyData.eqvAll, PyData.eqvAll, eqv, eqv]
    by_cases h : a = c <;> by_cases h2 : b = d <;> simp [h, h2]
  toks x y r r' h := by
    obtain ⟨a, b⟩ := x
    obtain ⟨c, d⟩ := y
    simp only [keyToks, keyToksAll, List.cons_append, List.append_assoc, List.nil_append, List.cons.injEq, true_and] at h
    obtain ⟨e, h⟩ := toks _ _ _ _ h
    simp only [List.cons.injEq, true_and] at h
    obtain ⟨e2, h⟩ := toks _ _ _ _ h
    simp only [List.cons.injEq, true_and] at h
    exact ⟨by rw [e, e2], h⟩
  alk x y := by simp [alike, alikeAll, alk]
  nn x := by simp
  tk1 _ x := ⟨_, rfl⟩
  tk2 h := by cases h
theorem enc_int (i : Int) : (enc i : D) = .int i := rfl
theorem enc_list (xs : List α) : (enc xs : D) = .tup (xs.map enc) := rfl
theorem enc_pair (x : α × β) : (enc x : D) = .tup [enc x.1, enc x.2] := rfl
theorem shp (x : α) (h : dep α ≤ 64 := by decide) : SeqAt.shaped (py x) = true := by
  unfold SeqAt.shaped
  rw [lay, Bool.true_and, decide_eq_true_eq]
  exact Nat.le_trans (hdep x) h
theorem py?_enc (x : α) (h : dep α ≤ 64 := by decide) : (enc x).py? = W.pure (py x) := by
  unfold D.py?
  rw [hpy]
  exact W.need_bind (shp x h) _
theorem py?_lst (xs : List α) (h : dep α + 1 ≤ 64 := by decide) : (D.lst (xs.map enc)).py? = W.pure (.list (xs.map py)) := by
  have e : (D.lst (xs.map enc)).py = some (.list (xs.map py)) := by rw [D.py, pyL_enc]; rfl
  unfold D.py?
  rw [e]
  refine W.need_bind ?_ _
  unfold SeqAt.shaped
  rw [PyData.canLay0, lay_all, PyData.depth, Bool.true_and, decide_eq_true_eq]
  exact Nat.le_trans (Nat.succ_le_succ (dep_all xs)) h
theorem dec_same {p : Prop} (i j : Decidable p) : @decide p i = @decide p j := by congr
theorem D.eq_enc (x y : α) [Decidable (x = y)] (h : dep α ≤ 64 := by decide) : D.eq (enc x) (enc y) = W.pure (.bl (decide (x = y))) := by
  unfold D.eq
  rw [py?_enc x h, W.pure_bind, py?_enc y h, W.pure_bind, eqv, dec_same _ _]
theorem D.ne_enc (x y : α) [Decidable (x = y)] (h : dep α ≤ 64 := by decide) : D.ne (enc x) (enc y) = W.pure (.bl (!decide (x = y))) := by
  unfold D.ne
  rw [py?_enc x h, W.pure_bind, py?_enc y h, W.pure_bind, eqv, dec_same _ _]
theorem D.eq_lst (xs ys : List α) [Decidable (xs = ys)] (h : dep α + 1 ≤ 64 := by decide) : D.eq (.lst (xs.map enc)) (.lst (ys.map enc)) = W.pure (.bl (decide (xs = ys))) := by
  unfold D.eq
  rw [py?_lst xs h, W.pure_bind, py?_lst ys h, W.pure_bind, PyData.eqv, eqv_all, dec_same _ _]
theorem D.ne_lst (xs ys : List α) [Decidable (xs = ys)] (h : dep α + 1 ≤ 64 := by decide) : D.ne (.lst (xs.map enc)) (.lst (ys.map enc)) = W.pure (.bl (!decide (xs = ys))) := by
  unfold D.ne
  rw [py?_lst xs h, W.pure_bind, py?_lst ys h, W.pure_bind, PyData.eqv, eqv_all, dec_same _ _]
theorem any_eqv (x : α) (xs : List α) : ((xs.map py).any fun q => PyData.eqv q (py x)) = decide (x ∈ xs) := by
  rw [List.any_map]
  induction xs with
  | nil => simp
  | cons y ys ih =>
    rw [List.any_cons, ih]
    show (PyData.eqv (py y) (py x) || _) = _
    rw [eqv]
    by_cases h : y = x
    · simp [h]
    · have h' : ¬ x = y := fun e => h e.symm
      simp [h, h']
theorem D.has_tup (x : α) (xs : List α) [Decidable (x ∈ xs)] (h : dep α + 1 ≤ 64 := by decide) : D.has (enc x) (.tup (xs.map enc)) = W.pure (decide (x ∈ xs)) := by
  have e : D.has (enc x) (.tup (xs.map enc)) = (enc x).py?.bind fun p => (D.tup (xs.map enc)).py?.bind fun _ => (W.some? (pyL (xs.map enc))).bind fun ps => W.pure (ps.any fun q => PyData.eqv q p) := by
    have := hpy x
    unfold D.has
    split <;> first
      | rfl
      | (rename_i e1 e2; cases e2; rfl)
      | (rename_i e1 e2; cases e2)
      | skip
    all_goals simp_all
  rw [e, py?_enc x (by omega), W.pure_bind, show D.tup (xs.map enc) = enc xs from rfl, py?_enc xs h, W.pure_bind, pyL_enc, W.some?_some, W.pure_bind, any_eqv, dec_same _ _]
theorem D.has_lst (x : α) (xs : List α) [Decidable (x ∈ xs)] (h : dep α + 1 ≤ 64 := by decide) : D.has (enc x) (.lst (xs.map enc)) = W.pure (decide (x ∈ xs)) := by
  have e : D.has (enc x) (.lst (xs.map enc)) = (enc x).py?.bind fun p => (D.lst (xs.map enc)).py?.bind fun _ => (W.some? (pyL (xs.map enc))).bind fun ps => W.pure (ps.any fun q => PyData.eqv q p) := by
    have := hpy x
    unfold D.has
    split <;> first
      | rfl
      | (rename_i e1 e2; cases e2; rfl)
      | (rename_i e1 e2; cases e2)
      | skip
    all_goals simp_all
  rw [e, py?_enc x (by omega), W.pure_bind, py?_lst xs h, W.pure_bind, pyL_enc, W.some?_some, W.pure_bind, any_eqv, dec_same _ _]
theorem D.in_tup (x : α) (xs : List α) [Decidable (x ∈ xs)] (h : dep α + 1 ≤ 64 := by decide) : D.in (enc x) (.tup (xs.map enc)) = W.pure (.bl (decide (x ∈ xs))) := by unfold D.in; rw [D.has_tup x xs h]; rfl
theorem D.notIn_tup (x : α) (xs : List α) [Decidable (x ∈ xs)] (h : dep α + 1 ≤ 64 := by decide) : D.notIn (enc x) (.tup (xs.map enc)) = W.pure (.bl (!decide (x ∈ xs))) := by unfold D.notIn; rw [D.has_tup x xs h]; rfl
theorem D.in_lst (x : α) (xs : List α) [Decidable (x ∈ xs)] (h : dep α + 1 ≤ 64 := by decide) : D.in (enc x) (.lst (xs.map enc)) = W.pure (.bl (decide (x ∈ xs))) := by unfold D.in; rw [D.has_lst x xs h]; rfl
theorem D.notIn_lst (x : α) (xs : List α) [Decidable (x ∈ xs)] (h : dep α + 1 ≤ 64 := by decide) : D.notIn (enc x) (.lst (xs.map enc)) = W.pure (.bl (!decide (x ∈ xs))) := by unfold D.notIn; rw [D.has_lst x xs h]; rfl

/-! ### sorted -/
def cle (x y : α) : Bool := dataLe false (fun x : α => py x) x y
theorem cle_enc (x y : α) : dataLe false PW.pyD (enc x) (enc y) = cle x y := by
  unfold cle dataLe PySem.W.sortLe
  simp only [Cod.pyD]
def csort (xs : List α) : List α := xs.mergeSort cle
theorem sortL_enc (xs : List α) : sortL (xs.map enc) = (csort xs).map enc := by
  unfold sortL csort
  rw [List.map_mergeSort (r := cle) (s := dataLe false PW.pyD) fun a _ b _ => (cle_enc a b).symm]
theorem sortOk_enc (xs : List α) (h : dep α ≤ 64 := by decide) : SortOk (xs.map enc) := by
  have hm : ∀ d ∈ xs.map enc, ∃ x : α, d = enc x := fun d hd => by
    obtain ⟨x, _, rfl⟩ := List.mem_map.mp hd
    exact ⟨x, rfl⟩
  have hm2 : ∀ d ∈ (xs.map enc).map PW.pyD, ∃ x : α, d = py x := fun d hd => by
    obtain ⟨e, he, rfl⟩ := List.mem_map.mp hd
    obtain ⟨x, rfl⟩ := hm e he
    exact ⟨x, Cod.pyD x⟩
  refine ⟨fun d hd => ?_, fun d hd e he => ?_, ?_, fun d hd => ?_⟩
  · obtain ⟨x, rfl⟩ := hm d hd
    rw [Cod.pyD, hpy]
  · obtain ⟨x, rfl⟩ := hm2 d hd
    obtain ⟨y, rfl⟩ := hm2 e he
    exact alk x y
  · cases q : tupk α with
    | true => exact .inl fun d hd => by obtain ⟨x, rfl⟩ := hm2 d hd; exact tk1 q x
    | false => exact .inr fun d hd => by obtain ⟨x, rfl⟩ := hm2 d hd; exact ⟨nn x, tk2 q x⟩
  · obtain ⟨x, rfl⟩ := hm d hd
    rw [Cod.pyD]
    have := hdep x
    omega
theorem csort_perm (xs : List α) : (csort xs).Perm xs := List.mergeSort_perm xs cle
theorem cle_total (x y : α) : (cle x y || cle y x) = true := Bool.or_eq_true_iff.mpr ((PySem.W.sortLe_total (listOrd itemOrd) false fun x : α => keyToks (py x)).total x y)
theorem cle_trans (x y z : α) : cle x y = true → cle y z = true → cle x z = true := (PySem.W.sortLe_total (listOrd itemOrd) false fun x : α => keyToks (py x)).trans x y z
theorem csort_pairwise (xs : List α) : (csort xs).Pairwise fun a b => cle a b = true := List.pairwise_mergeSort cle_trans cle_total xs
theorem cle_anti {x y : α} (h1 : cle x y = true) (h2 : cle y x = true) : x = y := by
  unfold cle dataLe PySem.W.sortLe at h1 h2
  simp only [cond_false, Bool.not_eq_true'] at h1 h2
  have e := (listOrd itemOrd).total _ _ h2 h1
  exact (toks x y [] [] (by rw [List.append_nil, List.append_nil]; exact e)).1
theorem csort_length (xs : List α) : (csort xs).length = xs.length := List.length_mergeSort xs
theorem mem_csort {x : α} {xs : List α} : x ∈ csort xs ↔ x ∈ xs := (csort_perm xs).mem_iff
theorem sorted_unique {xs ys : List α} (p : xs.Perm ys) (h1 : xs.Pairwise fun a b => cle a b = true) (h2 : ys.Pairwise fun a b => cle a b = true) : xs = ys :=
  List.Perm.eq_of_pairwise (fun a b _ _ => cle_anti) h1 h2 p
theorem csort_eq {xs ys : List α} (p : xs.Perm ys) (h : ys.Pairwise fun a b => cle a b = true) : csort xs = ys := sorted_unique ((csort_perm xs).trans p) (csort_pairwise xs) h
theorem D.sorted_lst (xs : List α) (hz : xs.length ≤ sizeLine) (h : dep α ≤ 64 := by decide) : D.sorted [.lst (xs.map enc)] = W.pure (.lst ((csort xs).map enc)) := by
  show (W.need (SortOk (xs.map enc) ∧ (xs.map enc).length ≤ sizeLine)).bind (fun _ => W.pure (D.lst (sortL (xs.map enc)))) = W.pure (D.lst ((csort xs).map enc))
  rw [W.need_bind ⟨sortOk_enc xs h, by rw [List.length_map]; exact hz⟩, sortL_enc]
theorem D.sorted_tup (xs : List α) (hz : xs.length ≤ sizeLine) (h : dep α ≤ 64 := by decide) : D.sorted [.tup (xs.map enc)] = W.pure (.lst ((csort xs).map enc)) := by
  show (W.need (SortOk (xs.map enc) ∧ (xs.map enc).length ≤ sizeLine)).bind (fun _ => W.pure (D.lst (sortL (xs.map enc)))) = W.pure (D.lst ((csort xs).map enc))
  rw [W.need_bind ⟨sortOk_enc xs h, by rw [List.length_map]; exact hz⟩, sortL_enc]
end
theorem cle_int (x y : Int) : cle x y = decide (x ≤ y) := by
  show (!PyProof.Rows.lexLt itemOrd (keyToks (.int y)) (keyToks (.int x))) = _
  rw [keyToks, keyToks]
  by_cases h : y < x
  · have h2 : ¬ x ≤ y := by omega
    simp [PyProof.Rows.lexLt, itemOrd, itemLt, h, h2]
  · have h2 : x ≤ y := by omega
    simp [PyProof.Rows.lexLt, itemOrd, itemLt, h, h2]
end PW

set_option Elab.async false
set_option linter.all false
set_option maxRecDepth 100000
set_option maxHeartbeats 1000000
namespace PW
open PySem PySem.Spec PyProof.Rows L2 Cod
theorem size_le {n : Nat} (h : n ≤ 1000000) : n ≤ sizeLine := Nat.le_trans h (by unfold sizeLine; decide)
theorem W.need_size {α : Type} {n : Nat} (h : n ≤ 1000000) (f : Unit → W α) : (W.need (n ≤ sizeLine)).bind f = f () := W.need_bind (size_le h) f
theorem W.need_len {α : Type} (n : Nat) (f : Unit → W α) : (W.need (n = n)).bind f = f () := W.need_bind rfl f
theorem W.need_T {α : Type} (f : Unit → W α) : (W.need True).bind f = f () := W.need_bind trivial f
theorem W.need_len1 {α : Type} (f : Unit → W α) : (W.need (0 + 1 = 1)).bind f = f () := W.need_bind rfl f
theorem W.need_len2 {α : Type} (f : Unit → W α) : (W.need (0 + 1 + 1 = 2)).bind f = f () := W.need_bind rfl f
theorem W.need_len3 {α : Type} (f : Unit → W α) : (W.need (0 + 1 + 1 + 1 = 3)).bind f = f () := W.need_bind rfl f
theorem W.need_len4 {α : Type} (f : Unit → W α) : (W.need (0 + 1 + 1 + 1 + 1 = 4)).bind f = f () := W.need_bind rfl f
theorem W.need_sz0 {α : Type} (f : Unit → W α) : (W.need (0 ≤ sizeLine)).bind f = f () := W.need_bind (size_le (by decide)) f
theorem W.need_sz1 {α : Type} (f : Unit → W α) : (W.need (0 + 1 ≤ sizeLine)).bind f = f () := W.need_bind (size_le (by decide)) f
theorem W.need_sz2 {α : Type} (f : Unit → W α) : (W.need (0 + 1 + 1 ≤ sizeLine)).bind f = f () := W.need_bind (size_le (by decide)) f
theorem W.need_sz3 {α : Type} (f : Unit → W α) : (W.need (0 + 1 + 1 + 1 ≤ sizeLine)).bind f = f () := W.need_bind (size_le (by decide)) f
theorem W.need_sz4 {α : Type} (f : Unit → W α) : (W.need (0 + 1 + 1 + 1 + 1 ≤ sizeLine)).bind f = f () := W.need_bind (size_le (by decide)) f
theorem W.need_sz5 {α : Type} (f : Unit → W α) : (W.need (0 + 1 + 1 + 1 + 1 + 1 ≤ sizeLine)).bind f = f () := W.need_bind (size_le (by decide)) f
theorem W.if_bl {α : Type} (b : Bool) (x y : W α) : (if b = true then x else y) = (match b with
    | true => x
    | false => y) := by cases b <;> rfl

theorem W.ite_and (p q : Bool) : (if p = true then W.pure q else W.pure false) = W.pure (p && q) := by cases p <;> rfl
theorem W.ite_or (p q : Bool) : (if p = true then W.pure true else W.pure q) = W.pure (p || q) := by cases p <;> rfl
theorem W.ite_andD (p q : Bool) : (if p = true then W.pure (D.bl q) else W.pure (D.bl false)) = W.pure (D.bl (p && q)) := by cases p <;> rfl
theorem W.ite_orD (p q : Bool) : (if p = true then W.pure (D.bl true) else W.pure (D.bl q)) = W.pure (D.bl (p || q)) := by cases p <;> rfl

/-! ### ranges -/
def rngI (lo hi : Int) : List Int := (List.range (hi - lo).toNat).map fun i => lo + (i : Nat)
theorem rngD_I (lo hi : Int) : rngD lo hi = (rngI lo hi).map D.int := by
  unfold rngD rngI
  rw [List.map_map]
  rfl
theorem mem_rngI {lo hi x : Int} : x ∈ rngI lo hi ↔ lo ≤ x ∧ x < hi := by
  unfold rngI
  rw [List.mem_map]
  constructor
  · rintro ⟨i, hi, rfl⟩
    have := List.mem_range.mp hi
    omega
  · rintro ⟨h1, h2⟩
    exact ⟨(x - lo).toNat, List.mem_range.mpr (by omega), by omega⟩
theorem rngI_length (lo hi : Int) : (rngI lo hi).length = (hi - lo).toNat := by unfold rngI; rw [List.length_map, List.length_range]
theorem rngI_lt (lo hi : Int) : (rngI lo hi).Pairwise fun a b => a < b := by
  unfold rngI
  rw [List.pairwise_map]
  exact List.pairwise_lt_range.imp fun h => by omega
theorem rngI_nodup (lo hi : Int) : (rngI lo hi).Nodup := (rngI_lt lo hi).imp fun h => by omega
theorem D.rng1_int {j : Int} (h : -(2 ^ 62) ≤ j ∧ j < 1000000) : D.rng1 [.int j] = W.pure ((rngI 0 j).map enc) := by
  show (W.need (-(2 ^ 62) ≤ j ∧ j < 2 ^ 62 ∧ j.toNat ≤ sizeLine)).bind (fun _ => W.pure (rngD 0 j)) = _
  rw [W.need_bind ⟨h.1, by omega, size_le (by omega)⟩, rngD_I]
  rfl
theorem D.rng2_int {i j : Int} (h1 : -1000000 < i) (h2 : i < 1000000) (h3 : -1000000 < j) (h4 : j < 1000000) (h5 : j - i < 1000000) : D.rng2 [.int i, .int j] = W.pure ((rngI i j).map enc) := by
  show (W.need (-(2 ^ 62) ≤ i ∧ i < 2 ^ 62 ∧ -(2 ^ 62) ≤ j ∧ j < 2 ^ 62 ∧ (j - i).toNat ≤ sizeLine)).bind (fun _ => W.pure (rngD i j)) = _
  rw [W.need_bind ⟨by omega, by omega, by omega, by omega, size_le (by omega)⟩, rngD_I]
  rfl
theorem D.iter_rng {i j : Int} (h1 : -1000000 < i) (h2 : i < 1000000) (h3 : -1000000 < j) (h4 : j < 1000000) (h5 : j - i < 1000000) : D.iter (.rng i j) = W.pure ((rngI i j).map enc) := by
  show (W.need (-(2 ^ 62) ≤ i ∧ i < 2 ^ 62 ∧ -(2 ^ 62) ≤ j ∧ j < 2 ^ 62 ∧ (j - i).toNat ≤ sizeLine)).bind (fun _ => W.pure (rngD i j)) = _
  rw [W.need_bind ⟨by omega, by omega, by omega, by omega, size_le (by omega)⟩, rngD_I]
  rfl
theorem D.range2 (i j : Int) : D.range [.int i, .int j] = W.pure (.rng i j) := rfl
theorem D.range1 (j : Int) : D.range [.int j] = W.pure (.rng 0 j) := rfl
theorem D.ix_head {r : List Int} (h : r ≠ []) : D.ix (enc r) (.int 0) = W.pure (.int (r.headD 0)) := by
  cases r with
  | nil => exact absurd rfl h
  | cons x xs => rw [enc_list, D.ix_tup, List.map_cons, atI_zero]; rfl
theorem D.ix_last {r : List Int} (h : r ≠ []) : D.ix (enc r) (.int (-1)) = W.pure (.int (r.getLastD 0)) := by
  rw [enc_list, D.ix_tup, atI_neg1, List.getLast?_map]
  cases q : r.getLast? with
  | none => exact absurd (List.getLast?_eq_none_iff.mp q) h
  | some x => rw [List.getLastD_eq_getLast?, q]; rfl
theorem D.ix_at {r : List Int} {i : Nat} (h : i < r.length) : D.ix (enc r) (.int (i : Int)) = W.pure (.int ((r[i]?).getD 0)) := by
  rw [enc_list, D.ix_tup, atI_nat, List.getElem?_map, List.getElem?_eq_getElem h]
  rfl
theorem D.mul_0 (d : D) : D.mul (.lst [d]) (.int 0) = W.pure (.lst []) := by
  rw [D.mul_lst, W.need_bind ⟨by decide, by decide, size_le (show 1 * 0 ≤ 1000000 by decide)⟩]
  rfl
theorem D.mul_1 (d : D) : D.mul (.lst [d]) (.int 1) = W.pure (.lst [d]) := by
  rw [D.mul_lst, W.need_bind ⟨by decide, by decide, size_le (show 1 * 1 ≤ 1000000 by decide)⟩]
  rfl
theorem D.mul_one (d : D) (q : Bool) : D.mul (.lst [d]) (.int (if q = true then 1 else 0)) = W.pure (.lst (if q = true then [d] else [])) := by
  cases q with
  | true => exact D.mul_1 d
  | false => exact D.mul_0 d
theorem D.add_nil (xs : List D) (h : xs.length ≤ 1000000) : D.add (.lst xs) (.lst []) = W.pure (.lst xs) := by
  rw [D.add_lst, W.need_size (by rw [List.length_nil]; omega), List.append_nil]
theorem filter_snoc {α : Type} (p : α → Bool) (xs : List α) (x : α) : (xs ++ [x]).filter p = xs.filter p ++ if p x = true then [x] else [] := by
  rw [List.filter_append, List.filter_cons, List.filter_nil]
/-! ### couples -/
def cpl (n : Int) : List (Int × Int) := (rngI 0 n).flatMap fun a => (rngI (a + 1) n).map fun b => (a, b)
theorem mem_cpl {n : Int} {c : Int × Int} : c ∈ cpl n ↔ 0 ≤ c.1 ∧ c.1 < c.2 ∧ c.2 < n := by
  unfold cpl
  obtain ⟨a, b⟩ := c
  simp only [List.mem_flatMap, List.mem_map, mem_rngI, Prod.mk.injEq]
  constructor
  · rintro ⟨x, hx, y, hy, rfl, rfl⟩
    omega
  · rintro ⟨h1, h2, h3⟩
    exact ⟨a, by omega, b, by omega, rfl, rfl⟩
theorem cpl_nodup (n : Int) : (cpl n).Nodup := by
  unfold cpl
  refine List.pairwise_flatMap.mpr ⟨fun a _ => ?_, ?_⟩
  · exact List.pairwise_map.mpr ((rngI_lt _ _).imp fun {a b} h e => by cases e; omega)
  · refine (rngI_lt 0 n).imp fun {a b} h c h1 d h2 e => ?_
    obtain ⟨x, _, rfl⟩ := List.mem_map.mp h1
    obtain ⟨y, _, rfl⟩ := List.mem_map.mp h2
    cases e
    omega
/-! ### all, any, sum, enumerate, slices -/
theorem bls_map : ∀ bs : List Bool, D.bls (bs.map D.bl) = some bs
  | [] => rfl
  | b :: bs => by rw [List.map_cons, D.bls, bls_map bs]; rfl
theorem ints_map : ∀ bs : List Int, D.ints (bs.map D.int) = some bs
  | [] => rfl
  | b :: bs => by rw [List.map_cons, D.ints, ints_map bs]; rfl
theorem D.all_bl (bs : List Bool) : D.all [.lst (bs.map D.bl)] = W.pure (.bl (bs.all _root_.id)) := by
  show (W.some? (D.bls (bs.map D.bl))).bind _ = _
  rw [bls_map]
  rfl
theorem D.any_bl (bs : List Bool) : D.any [.lst (bs.map D.bl)] = W.pure (.bl (bs.any _root_.id)) := by
  show (W.some? (D.bls (bs.map D.bl))).bind _ = _
  rw [bls_map]
  rfl
theorem D.all_map {α : Type} (xs : List α) (f : α → Bool) : D.all [.lst (xs.map fun x => .bl (f x))] = W.pure (.bl (xs.all f)) := by
  have e : (xs.map fun x => D.bl (f x)) = (xs.map f).map D.bl := by rw [List.map_map]; rfl
  rw [e, D.all_bl, List.all_map]
  rfl
theorem D.sum_lst (bs : List Int) : D.sum [.lst (bs.map D.int)] = W.pure (.int bs.sum) := by
  show (W.some? (D.ints (bs.map D.int))).bind _ = _
  rw [ints_map]
  rfl
theorem D.sum_tup (bs : List Int) : D.sum [.tup (bs.map D.int)] = W.pure (.int bs.sum) := by
  show (W.some? (D.ints (bs.map D.int))).bind _ = _
  rw [ints_map]
  rfl
theorem cutL_drop {α : Type} (xs : List α) (k : Nat) : cutL xs (some (k : Int)) none = xs.drop k := by
  unfold cutL
  rw [HT.sIx_nat, HT.sIx_none]
  by_cases h : k ≤ xs.length
  · rw [Nat.min_eq_left h, List.take_of_length_le (by rw [List.length_drop]; omega)]
  · rw [Nat.min_eq_right (by omega), List.drop_of_length_le (Nat.le_refl _), List.drop_of_length_le (by omega), List.take_nil]
theorem cutL_take {α : Type} (xs : List α) (k : Nat) : cutL xs none (some (k : Int)) = xs.take k := by
  unfold cutL
  rw [HT.sIx_nat, HT.sIx_none, List.drop_zero, Nat.sub_zero]
  by_cases h : k ≤ xs.length
  · rw [Nat.min_eq_left h]
  · rw [Nat.min_eq_right (by omega), List.take_of_length_le (Nat.le_refl _), List.take_of_length_le (by omega)]
theorem sum_le_mul {α : Type} (xs : List α) (f : α → Nat) (k : Nat) (h : ∀ x ∈ xs, f x ≤ k) : (xs.map f).sum ≤ xs.length * k := by
  induction xs with
  | nil => simp
  | cons x xs ih =>
    have h1 := h x List.mem_cons_self
    have h2 := ih fun y hy => h y (List.mem_cons_of_mem _ hy)
    rw [List.map_cons, List.sum_cons, List.length_cons, Nat.add_mul]
    omega
theorem D.eq_nil_map {α β : Type} [DecidableEq β] [Cod β] (xs : List α) (g : α → β) [Decidable (xs = [])] (h : dep β + 1 ≤ 64 := by decide) : D.eq (.lst (xs.map fun x => enc (g x))) (.lst []) = W.pure (.bl (decide (xs = []))) := by
  have e : (xs.map fun x => enc (g x)) = (xs.map g).map enc := by rw [List.map_map]; rfl
  rw [e, show (D.lst ([] : List D)) = D.lst (([] : List β).map enc) from rfl, D.eq_lst _ _ h]
  congr 2
  rw [decide_eq_decide, List.map_eq_nil_iff]
theorem D.sorted_map {α β : Type} [DecidableEq β] [Cod β] (xs : List α) (g : α → β) (hz : xs.length ≤ 1000000) (h : dep β ≤ 64 := by decide) : D.sorted [.lst (xs.map fun x => enc (g x))] = W.pure (.lst ((csort (xs.map g)).map enc)) := by
  have e : (xs.map fun x => enc (g x)) = (xs.map g).map enc := by rw [List.map_map]; rfl
  rw [e, D.sorted_lst _ (size_le (by rw [List.length_map]; exact hz)) h]
theorem forW_nil (t : Tgt) (b : Env → W Out) (ρ : Env) : forW t b [] ρ = W.pure (.nx ρ) := rfl
theorem forW_cons (t : Tgt) (b : Env → W Out) (d : D) (ds : List D) (ρ : Env) : forW t b (d :: ds) ρ = (t.set d ρ).bind fun ρ' => (b ρ').bind fun o => match o with
    | .nx ρ'' => forW t b ds ρ''
    | .ct ρ'' => forW t b ds ρ''
    | .bk ρ'' => W.pure (.nx ρ'')
    | .rt d => W.pure (.rt d) := rfl
theorem D.zip_tup {α β : Type} [DecidableEq α] [Cod α] [DecidableEq β] [Cod β] (xs : List α) (ys : List β) : D.zip [.tup (xs.map enc), .tup (ys.map enc)] = W.pure ((xs.zip ys).map enc) := by
  show W.pure (zipD _ _) = _
  unfold zipD
  rw [List.zipWith_map, List.zip, List.map_zipWith]
  rfl
theorem D.isi_tup {α : Type} [DecidableEq α] [Cod α] (xs : List α) : D.isi [enc xs, .ty "tuple"] = W.pure (.bl true) := rfl
theorem rise_iff (l : List Int) : ((l.zip (l.drop 1)).all fun p => decide (p.1 < p.2)) = decide (l.Pairwise fun a b => a < b) := by
  rw [Bool.eq_iff_iff, decide_eq_true_eq]
  induction l with
  | nil => simp
  | cons x xs ih =>
    cases xs with
    | nil => simp
    | cons y ys =>
      rw [List.drop_succ_cons, List.drop_zero] at ih ⊢
      rw [List.zip_cons_cons, List.all_cons, Bool.and_eq_true, decide_eq_true_eq, List.pairwise_cons]
      have ih' : (((y :: ys).zip ys).all fun p => decide (p.1 < p.2)) = true ↔ (y :: ys).Pairwise fun a b => a < b := by
        simpa using ih
      rw [ih']
      constructor
      · rintro ⟨h1, h2⟩
        refine ⟨fun z hz => ?_, h2⟩
        rcases List.mem_cons.mp hz with rfl | hz
        · exact h1
        · have := (List.pairwise_cons.mp h2).1 z hz
          omega
      · rintro ⟨h1, h2⟩
        exact ⟨h1 y List.mem_cons_self, h2⟩
def enumI {α : Type} (xs : List α) : List (Int × α) := (List.range xs.length).zipWith (fun (i : Nat) (x : α) => ((i : Int), x)) xs
theorem enumD_enc {α : Type} [DecidableEq α] [Cod α] (xs : List α) : enumD (xs.map enc) = (enumI xs).map enc := by
  unfold enumD enumI
  rw [List.length_map, List.map_zipWith, List.zipWith_map_right]
  rfl
theorem D.enum_tup {α : Type} [DecidableEq α] [Cod α] (xs : List α) : D.enum [.tup (xs.map enc)] = W.pure ((enumI xs).map enc) := by
  rw [← enumD_enc]
  rfl
theorem D.enum_lst {α : Type} [DecidableEq α] [Cod α] (xs : List α) : D.enum [.lst (xs.map enc)] = W.pure ((enumI xs).map enc) := by
  rw [← enumD_enc]
  rfl
theorem enumI_length {α : Type} (xs : List α) : (enumI xs).length = xs.length := by unfold enumI; rw [List.length_zipWith, List.length_range, Nat.min_self]
theorem enumI_snd {α : Type} (xs : List α) : (enumI xs).map (·.2) = xs := by
  unfold enumI
  rw [List.map_zipWith]
  apply List.ext_getElem
  · rw [List.length_zipWith, List.length_range, Nat.min_self]
  · intro i h1 h2
    rw [List.getElem_zipWith]
theorem enumI_get {α : Type} (xs : List α) (i : Nat) (h : i < xs.length) : (enumI xs)[i]? = some ((i : Int), xs[i]) := by
  unfold enumI
  rw [List.getElem?_zipWith, List.getElem?_range h, List.getElem?_eq_getElem h]
theorem map_int (xs : List Int) : xs.map (enc (α := Int)) = xs.map D.int := rfl
end PW

set_option Elab.async false
set_option linter.all false
set_option maxRecDepth 100000
set_option maxHeartbeats 1000000
namespace PW
open PySem PySem.Spec PyProof.Rows L2 Cod
open PySem.W (keyToks keyToksAll dataLe dataLt)
/-! ### min of a list -/
section
variable {α : Type} [DecidableEq α] [Cod α]
def minC (x : α) (xs : List α) : α := xs.foldl (fun a y => if cle a y = true then a else y) x
theorem minL_enc (x : α) (xs : List α) : D.minL (enc x) (xs.map enc) = enc (minC x xs) := by
  unfold D.minL minC
  induction xs generalizing x with
  | nil => rfl
  | cons y ys ih =>
    rw [List.map_cons, List.foldl_cons, List.foldl_cons, ← ih]
    congr 1
    have e : dataLt (pyD (enc y)) (pyD (enc x)) = !cle x y := by
      rw [Cod.pyD, Cod.pyD]
      unfold cle dataLe PySem.W.sortLe dataLt
      simp
    rw [e]
    cases cle x y <;> rfl
theorem minOk_enc (xs : List α) (h : dep α ≤ 64 := by decide) : MinOk (xs.map enc) := by
  have so := sortOk_enc xs h
  refine ⟨so.py, ⟨so.alike, fun d hd => ?_⟩, so.depth⟩
  obtain ⟨e, he, rfl⟩ := List.mem_map.mp hd
  obtain ⟨x, _, rfl⟩ := List.mem_map.mp he
  rw [Cod.pyD]
  exact nn x
theorem D.min_lst (x : α) (xs : List α) (h : dep α ≤ 64 := by decide) : D.min [.lst ((x :: xs).map enc)] = W.pure (enc (minC x xs)) := by
  show (W.need (MinOk ((x :: xs).map enc))).bind (fun _ => W.pure (D.minL (enc x) (xs.map enc))) = _
  rw [W.need_bind (minOk_enc _ h), minL_enc]
theorem D.min_tup (x : α) (xs : List α) (h : dep α ≤ 64 := by decide) : D.min [.tup ((x :: xs).map enc)] = W.pure (enc (minC x xs)) := by
  show (W.need (MinOk ((x :: xs).map enc))).bind (fun _ => W.pure (D.minL (enc x) (xs.map enc))) = _
  rw [W.need_bind (minOk_enc _ h), minL_enc]
theorem cle_refl (x : α) : cle x x = true := by
  have := cle_total x x
  simpa using this
theorem minC_mem (x : α) (xs : List α) : minC x xs ∈ x :: xs := by
  unfold minC
  induction xs generalizing x with
  | nil => exact List.mem_cons_self
  | cons y ys ih =>
    rw [List.foldl_cons]
    split
    · rcases List.mem_cons.mp (ih x) with h | h
      · rw [h]; exact List.mem_cons_self
      · exact List.mem_cons_of_mem _ (List.mem_cons_of_mem _ h)
    · exact List.mem_cons_of_mem _ (ih y)
theorem minC_le (x : α) (xs : List α) : ∀ y ∈ x :: xs, cle (minC x xs) y = true := by
  unfold minC
  induction xs generalizing x with
  | nil =>
    intro y hy
    rw [List.mem_singleton] at hy
    subst hy
    exact cle_refl _
  | cons z zs ih =>
    intro y hy
    rw [List.foldl_cons]
    split
    · rename_i q
      have h1 := ih x
      rcases List.mem_cons.mp hy with rfl | hy
      · exact h1 _ List.mem_cons_self
      · rcases List.mem_cons.mp hy with rfl | hy
        · exact cle_trans _ _ _ (h1 x List.mem_cons_self) q
        · exact h1 _ (List.mem_cons_of_mem _ hy)
    · rename_i q
      have q2 : cle z x = true := by
        have := cle_total x z
        simp only [Bool.or_eq_true] at this
        rcases this with h | h
        · exact absurd h q
        · exact h
      have h1 := ih z
      rcases List.mem_cons.mp hy with rfl | hy
      · exact cle_trans _ _ _ (h1 z List.mem_cons_self) q2
      · exact h1 _ hy
end
theorem cle_head {a b : Int} {as bs : List Int} (h : cle (a :: as) (b :: bs) = true) : a ≤ b := by
  unfold cle dataLe PySem.W.sortLe at h
  simp only [cond_false, Bool.not_eq_true'] at h
  by_cases hlt : b < a
  · exfalso
    have e : PyProof.Rows.lexLt itemOrd (keyToks (py (b :: bs))) (keyToks (py (a :: as))) = true := by
      show PyProof.Rows.lexLt itemOrd (keyToks (.tuple (.int b :: bs.map py))) (keyToks (.tuple (.int a :: as.map py))) = true
      rw [keyToks, keyToks, keyToksAll, keyToksAll, keyToks, keyToks]
      simp only [List.cons_append, List.nil_append]
      rw [show ∀ l m, PyProof.Rows.lexLt itemOrd (Sum.inl (1 : Int) :: l) (Sum.inl (1 : Int) :: m) = PyProof.Rows.lexLt itemOrd l m from fun l m => PyProof.Rows.lex_self (O := itemOrd) _ l m]
      rw [PyProof.Rows.lex_diff (O := itemOrd) (by intro e; cases e; omega)]
      show decide (b < a) = true
      exact decide_eq_true hlt
    rw [show PyProof.Rows.lexLt itemOrd (keyToks (py (b :: bs))) (keyToks (py (a :: as))) = false from h] at e
    cases e
  · omega
end PW

set_option Elab.async false
set_option linter.all false
set_option maxRecDepth 100000
set_option maxHeartbeats 1000000
namespace PW
open PySem PySem.Spec PyProof.Rows L2 Cod
theorem for_exA {α ι β : Type} {b : Env → W Out} {t : Tgt} {Y : ι → W β} {P : ι → Prop} {e : α → D} {k : Out → W β} (I : List α → Env → Prop) (xs : List α) (ρ : Env) (h0 : I [] ρ)
    (hs : ∀ done x rest ρ, done ++ x :: rest = xs → I done ρ → ∃ ρ', ((t.set (e x) ρ).bind b = W.pure (.nx ρ') ∨ (t.set (e x) ρ).bind b = W.pure (.ct ρ')) ∧ I (done ++ [x]) ρ')
    (hq : ∀ ρ', I xs ρ' → ∃ l, k (.nx ρ') = Y l ∧ P l) : ∃ l, (forW t b (xs.map e) ρ).bind k = Y l ∧ P l := by
  obtain ⟨ρ', h1, h2⟩ := for_inv I xs ρ h0 hs
  rw [h1, W.pure_bind]
  exact hq ρ' h2
theorem for_last {α : Type} {b : Env → W Out} {t : Tgt} {P : Env → Prop} {e : α → D} (I : List α → Env → Prop) (xs : List α) (ρ : Env) (h0 : I [] ρ)
    (hs : ∀ done x rest ρ, done ++ x :: rest = xs → I done ρ → ∃ ρ', ((t.set (e x) ρ).bind b = W.pure (.nx ρ') ∨ (t.set (e x) ρ).bind b = W.pure (.ct ρ')) ∧ I (done ++ [x]) ρ')
    (hq : ∀ ρ', I xs ρ' → P ρ') : ∃ ρ', (forW t b (xs.map e) ρ = W.pure (.nx ρ') ∨ forW t b (xs.map e) ρ = W.pure (.ct ρ')) ∧ P ρ' := by
  obtain ⟨ρ', h1, h2⟩ := for_inv I xs ρ h0 hs
  exact ⟨ρ', .inl h1, hq ρ' h2⟩
/-! ### {x: True for x in xs} of ints -/
def trueK (xs : List Int) : List (Key × D) := xs.map fun x => (Sum.inl x, D.bl true)
def addNew (acc : List Int) (x : Int) : List Int := if x ∈ acc then acc else acc ++ [x]
theorem put_trueK (acc : List Int) (x : Int) : putD (trueK acc) (Sum.inl x) (D.bl true) = trueK (addNew acc x) := by
  unfold putD addNew
  have e : ((trueK acc).any fun kv => decide (kv.1 = (Sum.inl x : Key))) = decide (x ∈ acc) := by
    unfold trueK
    rw [List.any_map]
    induction acc with
    | nil => rfl
    | cons y ys ih =>
      rw [List.any_cons, ih]
      by_cases h : y = x
      · simp [h]
      · have h2 : ¬ x = y := fun e => h e.symm
        have h3 : ¬ ((Sum.inl y : Key) = Sum.inl x) := fun e => h (by cases e; rfl)
        simp [h, h2]
  rw [e]
  by_cases h : x ∈ acc
  · rw [if_pos (by simpa using h), if_pos h]
    unfold trueK
    rw [List.map_map]
    refine List.map_congr_left fun y _ => ?_
    show (if _ then _ else _) = _
    split <;> rfl
  · rw [if_neg (by simpa using h), if_neg h]
    unfold trueK
    rw [List.map_append]
    rfl
theorem addNew_len (acc : List Int) (x : Int) : (addNew acc x).length ≤ acc.length + 1 := by
  unfold addNew
  split
  · omega
  · rw [List.length_append, List.length_cons, List.length_nil]
    omega
theorem addNew_nodup {acc : List Int} (x : Int) (h : acc.Nodup) : (addNew acc x).Nodup := by
  unfold addNew
  split
  · exact h
  · rename_i hx
    refine List.nodup_append.mpr ⟨h, by simp, fun a ha b hb e => ?_⟩
    rw [List.mem_singleton] at hb
    subst e hb
    exact hx ha
theorem mem_addNew {acc : List Int} {x y : Int} : y ∈ addNew acc x ↔ y ∈ acc ∨ y = x := by
  unfold addNew
  split
  · rename_i h
    constructor
    · exact .inl
    · rintro (h1 | rfl)
      · exact h1
      · exact h
  · rw [List.mem_append, List.mem_singleton]
theorem dcomp_true {i : Nat} {ρ : Env} {p : Env → W Bool} {fk fv : Env → W D} (hp : ∀ x : Int, p (ρ.set i (some (enc x))) = W.pure true) (hk : ∀ x : Int, fk (ρ.set i (some (enc x))) = W.pure (enc x)) (hv : ∀ x : Int, fv (ρ.set i (some (enc x))) = W.pure (.bl true)) :
    ∀ (xs acc : List Int), acc.length + xs.length ≤ 100000 → dcompW (.nm i) p fk fv (xs.map enc) ρ (trueK acc) = W.pure (trueK (xs.foldl addNew acc))
  | [], acc, _ => rfl
  | x :: xs, acc, h => by
    rw [List.length_cons] at h
    have hl : (trueK acc).length < sizeLine := by
      unfold trueK
      rw [List.length_map]
      exact Nat.lt_of_lt_of_le (show acc.length < 1000000 by omega) (by unfold sizeLine; decide)
    have hl2 := addNew_len acc x
    rw [List.map_cons, dcompW, Tgt.set_nm, W.pure_bind, hp, W.pure_bind, if_pos rfl, hk, W.pure_bind, hv, W.pure_bind, show asKey (enc x) = some (Sum.inl x) from rfl, W.some?_some, W.pure_bind, W.need_bind hl, put_trueK, List.foldl_cons]
    exact dcomp_true hp hk hv xs (addNew acc x) (by omega)
theorem dc_true {i : Nat} {ρ ρ' : Env} {fi : Env → W (List D)} {p : Env → W Bool} {fk fv : Env → W D} {vs : List Nat} (xs : List Int) (hi : fi ρ = W.pure (xs.map enc)) (hw : wipeE ρ vs = ρ') (hl : xs.length ≤ 1000) (hp : ∀ x : Int, p (ρ'.set i (some (enc x))) = W.pure true) (hk : ∀ x : Int, fk (ρ'.set i (some (enc x))) = W.pure (enc x)) (hv : ∀ x : Int, fv (ρ'.set i (some (enc x))) = W.pure (.bl true)) :
    dcW fi (.nm i) p fk fv vs ρ = W.pure (.dK (trueK (xs.foldl addNew []))) := by
  have h := dcomp_true hp hk hv xs [] (by rw [List.length_nil]; omega)
  rw [show trueK [] = [] from rfl] at h
  unfold dcW
  rw [hi, W.pure_bind, hw, h, W.pure_bind]
theorem D.len_trueK (xs : List Int) : D.len [.dK (trueK xs)] = W.pure (.int xs.length) := by
  show W.pure (D.int ((trueK xs).length : Int)) = _
  unfold trueK
  rw [List.length_map]
/-! ### a dict whose keys are rows of ints -/
def rowK (ks : List (List Int)) : List (List Key × D) := ks.map fun k => (k.map Sum.inl, D.bl true)
def addRow (acc : List (List Int)) (x : List Int) : List (List Int) := if x ∈ acc then acc else acc ++ [x]
theorem inl_inj {a b : List Int} (h : a.map (Sum.inl (β := Str)) = b.map Sum.inl) : a = b := by
  induction a generalizing b with
  | nil => cases b with
    | nil => rfl
    | cons _ _ => cases h
  | cons x xs ih => cases b with
    | nil => cases h
    | cons y ys =>
      rw [List.map_cons, List.map_cons] at h
      obtain ⟨h1, h2⟩ := List.cons.inj h
      cases h1
      rw [ih h2]
theorem put_rowK (acc : List (List Int)) (x : List Int) : putD (rowK acc) (x.map Sum.inl) (D.bl true) = rowK (addRow acc x) := by
  unfold putD addRow
  have e : ((rowK acc).any fun kv => decide (kv.1 = x.map Sum.inl)) = decide (x ∈ acc) := by
    unfold rowK
    rw [List.any_map]
    induction acc with
    | nil => rfl
    | cons y ys ih =>
      rw [List.any_cons, ih]
      by_cases h : y = x
      · simp [h]
      · have h2 : ¬ x = y := fun e => h e.symm
        have h3 : ¬ (y.map (Sum.inl (β := Str)) = x.map Sum.inl) := fun e => h (inl_inj e)
        have h4 : decide (y.map (Sum.inl (β := Str)) = x.map Sum.inl) = false := decide_eq_false h3
        show (decide (y.map (Sum.inl (β := Str)) = x.map Sum.inl) || _) = _
        rw [h4]
        simp [h2]
  rw [e]
  by_cases h : x ∈ acc
  · rw [if_pos (by simpa using h), if_pos h]
    unfold rowK
    rw [List.map_map]
    refine List.map_congr_left fun y _ => ?_
    show (if _ then _ else _) = _
    split <;> rfl
  · rw [if_neg (by simpa using h), if_neg h]
    unfold rowK
    rw [List.map_append]
    rfl
theorem addRow_len (acc : List (List Int)) (x : List Int) : (addRow acc x).length ≤ acc.length + 1 := by
  unfold addRow
  split
  · omega
  · rw [List.length_append, List.length_cons, List.length_nil]
    omega
theorem mem_addRow {acc : List (List Int)} {x y : List Int} (h : y ∈ addRow acc x) : y ∈ acc ∨ y = x := by
  unfold addRow at h
  split at h
  · exact .inl h
  · rwa [List.mem_append, List.mem_singleton] at h
theorem asKeys_row : ∀ r : List Int, asKeys (r.map enc) = some (r.map Sum.inl)
  | [] => rfl
  | x :: xs => by rw [List.map_cons, asKeys, asKeys_row xs]; rfl
theorem D.put_row (acc : List (List Int)) (x : List Int) (h : acc.length ≤ 100000) : D.put (.dT (rowK acc)) (enc x) (.bl true) = W.pure (.dT (rowK (addRow acc x))) := by
  show (W.some? (asKeys (x.map enc))).bind (fun k => (W.need ((rowK acc).length < sizeLine)).bind fun _ => W.pure (D.dT (putD (rowK acc) k (D.bl true)))) = _
  have hl : (rowK acc).length < sizeLine := by
    unfold rowK
    rw [List.length_map]
    exact Nat.lt_of_lt_of_le (show acc.length < 1000000 by omega) (by unfold sizeLine; decide)
  rw [asKeys_row, W.some?_some, W.pure_bind, W.need_bind hl, put_rowK]
theorem D.sorted_row (ks : List (List Int)) (h : ks.length ≤ 100000) : D.sorted [.dT (rowK ks)] = W.pure (.lst ((csort ks).map enc)) := by
  have e : (rowK ks).map (fun kv => D.tup (kv.1.map keyD)) = ks.map enc := by
    unfold rowK
    rw [List.map_map]
    refine List.map_congr_left fun k _ => ?_
    show D.tup ((k.map Sum.inl).map keyD) = D.tup (k.map enc)
    rw [List.map_map]
    rfl
  show (W.pure ((rowK ks).map fun kv => D.tup (kv.1.map keyD))).bind (fun ds => (W.need (SortOk ds ∧ ds.length ≤ sizeLine)).bind fun _ => W.pure (D.lst (sortL ds))) = _
  rw [e, W.pure_bind]
  exact D.sorted_lst ks (size_le (by omega))
/-- four kinds among four: all apart -/
theorem four_apart {a b c d : Int} (h : ([a, b, c, d].foldl addNew []).length = 4) : [a, b, c, d].Nodup := by
  have hn : ([a, b, c, d].foldl addNew []).Nodup := by
    simp only [List.foldl_cons, List.foldl_nil]
    exact addNew_nodup _ (addNew_nodup _ (addNew_nodup _ (addNew_nodup _ List.nodup_nil)))
  have hs : ∀ x ∈ [a, b, c, d].foldl addNew [], x ∈ [a, b, c, d] := by
    intro x hx
    simp only [List.foldl_cons, List.foldl_nil, mem_addNew, List.not_mem_nil, false_or] at hx
    simp only [List.mem_cons, List.not_mem_nil, or_false]
    rcases hx with ((hx | hx) | hx) | hx <;> simp [hx]
  have no : ∀ x y z : Int, (∀ w ∈ [a, b, c, d], w ∈ [x, y, z]) → False := fun x y z hw => by
    have := hn.length_le_of_subset fun w hx => hw w (hs w hx)
    rw [h] at this
    simp at this
  refine List.nodup_cons.mpr ⟨fun ha => no b c d fun w hw => ?_, List.nodup_cons.mpr ⟨fun hb => no a c d fun w hw => ?_, List.nodup_cons.mpr ⟨fun hc => no a b d fun w hw => ?_, by simp⟩⟩⟩
  · rcases List.mem_cons.mp hw with rfl | hw
    · exact ha
    · exact hw
  · simp only [List.mem_cons, List.not_mem_nil, or_false] at hw hb ⊢
    rcases hw with rfl | rfl | rfl | rfl
    · simp
    · rcases hb with rfl | rfl <;> simp
    · simp
    · simp
  · simp only [List.mem_cons, List.not_mem_nil, or_false] at hw hc ⊢
    rcases hw with rfl | rfl | rfl | rfl <;> simp_all
end PW

set_option Elab.async false
set_option linter.all false
set_option maxRecDepth 100000
set_option maxHeartbeats 1000000
namespace PW
open PySem PySem.Spec PyProof.Rows L2 Cod
/-! ### data of kinds -/
mutual
def D.alk : D → Bool
  | .non | .bl _ | .int _ => true
  | .str x => PyData.strOk x
  | .tup xs | .lst xs => D.alkL xs
  | _ => false
def D.alkL : List D → Bool
  | [] => true
  | x :: xs => x.alk && D.alkL xs
end
mutual
def D.nodes : D → Nat
  | .tup xs | .lst xs => D.nodesL xs + 1
  | _ => 1
def D.nodesL : List D → Nat
  | [] => 0
  | x :: xs => x.nodes + D.nodesL xs
end
theorem while_run {p : Env → W Bool} {b : Env → W Out} {Q : Out → Prop} (I : Nat → Env → Prop) {ρ : Env} {n : Nat} (h0 : I n ρ)
    (hs : ∀ n ρ, I n ρ → (p ρ).run fun k => if k = true then (b ρ).run fun o => match o with
      | .nx ρ' => ∃ m, m < n ∧ I m ρ'
      | .ct ρ' => ∃ m, m < n ∧ I m ρ'
      | .bk ρ' => Q (.nx ρ')
      | .rt d => Q (.rt d)
      else Q (.nx ρ)) : (whileW p b ρ).run Q := by
  have key : ∀ (f n : Nat) (ρ : Env), n < f → I n ρ → (whileN p b f ρ).run Q := by
    intro f
    induction f with
    | zero => intro n ρ h; omega
    | succ f ih =>
      intro n ρ hn hI
      rw [whileN, W.run_bind]
      refine (p ρ).mono (fun k h => ?_) (hs n ρ hI)
      cases k with
      | false => exact h
      | true =>
        rw [if_pos rfl] at h ⊢
        rw [W.run_bind]
        refine (b ρ).mono (fun o h => ?_) h
        cases o with
        | nx ρ' => obtain ⟨m, h1, h2⟩ := h; exact ih m ρ' (by omega) h2
        | ct ρ' => obtain ⟨m, h1, h2⟩ := h; exact ih m ρ' (by omega) h2
        | bk ρ' => exact h
        | rt d => exact h
  exact ⟨n + 1, key (n + 1) n ρ (Nat.lt_succ_self n) h0⟩
section
theorem D.ne_non : D.ne .non .non = W.pure (.bl false) := by
  have e : SeqAt.shaped .none = true := by simp [SeqAt.shaped, PyData.canLay0, PyData.depth]
  unfold D.ne D.py?
  simp only [D.py, W.need_bind e, W.pure_bind, PyData.eqv, Bool.not_true]
theorem D.ne_bl (b : Bool) : D.ne (.bl b) (.bl b) = W.pure (.bl false) := by
  have e : SeqAt.shaped (.bool b) = true := by simp [SeqAt.shaped, PyData.canLay0, PyData.depth]
  unfold D.ne D.py?
  simp only [D.py, W.need_bind e, W.pure_bind, PyData.eqv, beq_self_eq_true, Bool.not_true]
theorem D.ne_str (b : Str) (hb : PyData.strOk b = true) : D.ne (.str b) (.str b) = W.pure (.bl false) := by
  have e : SeqAt.shaped (.str b) = true := by simp [SeqAt.shaped, PyData.canLay0, PyData.depth, hb]
  unfold D.ne D.py?
  simp only [D.py, W.need_bind e, W.pure_bind, PyData.eqv, beq_self_eq_true, Bool.not_true, decide_true]
theorem D.isi_non_bool : D.isi [(.non : D), .ty "bool"] = W.pure (.bl false) := rfl
theorem D.isi_non_str : D.isi [(.non : D), .ty "str"] = W.pure (.bl false) := rfl
theorem D.isi_non_tuple : D.isi [(.non : D), .ty "tuple"] = W.pure (.bl false) := rfl
theorem D.isi_non_list : D.isi [(.non : D), .ty "list"] = W.pure (.bl false) := rfl
theorem D.isi_non_int : D.isi [(.non : D), .ty "int"] = W.pure (.bl false) := rfl
theorem D.isi_non_tl : D.isi [(.non : D), .tup [.ty "tuple", .ty "list"]] = W.pure (.bl false) := rfl
theorem D.isi_bl_bool (b : Bool) : D.isi [(.bl b : D), .ty "bool"] = W.pure (.bl true) := rfl
theorem D.isi_bl_str (b : Bool) : D.isi [(.bl b : D), .ty "str"] = W.pure (.bl false) := rfl
theorem D.isi_bl_tuple (b : Bool) : D.isi [(.bl b : D), .ty "tuple"] = W.pure (.bl false) := rfl
theorem D.isi_bl_list (b : Bool) : D.isi [(.bl b : D), .ty "list"] = W.pure (.bl false) := rfl
theorem D.isi_bl_int (b : Bool) : D.isi [(.bl b : D), .ty "int"] = W.pure (.bl true) := rfl
theorem D.isi_bl_tl (b : Bool) : D.isi [(.bl b : D), .tup [.ty "tuple", .ty "list"]] = W.pure (.bl false) := rfl
theorem D.isi_int_bool (b : Int) : D.isi [(.int b : D), .ty "bool"] = W.pure (.bl false) := rfl
theorem D.isi_int_str (b : Int) : D.isi [(.int b : D), .ty "str"] = W.pure (.bl false) := rfl
theorem D.isi_int_tuple (b : Int) : D.isi [(.int b : D), .ty "tuple"] = W.pure (.bl false) := rfl
theorem D.isi_int_list (b : Int) : D.isi [(.int b : D), .ty "list"] = W.pure (.bl false) := rfl
theorem D.isi_int_int (b : Int) : D.isi [(.int b : D), .ty "int"] = W.pure (.bl true) := rfl
theorem D.isi_int_tl (b : Int) : D.isi [(.int b : D), .tup [.ty "tuple", .ty "list"]] = W.pure (.bl false) := rfl
theorem D.isi_str_bool (b : Str) : D.isi [(.str b : D), .ty "bool"] = W.pure (.bl false) := rfl
theorem D.isi_str_str (b : Str) : D.isi [(.str b : D), .ty "str"] = W.pure (.bl true) := rfl
theorem D.isi_str_tuple (b : Str) : D.isi [(.str b : D), .ty "tuple"] = W.pure (.bl false) := rfl
theorem D.isi_str_list (b : Str) : D.isi [(.str b : D), .ty "list"] = W.pure (.bl false) := rfl
theorem D.isi_str_int (b : Str) : D.isi [(.str b : D), .ty "int"] = W.pure (.bl false) := rfl
theorem D.isi_str_tl (b : Str) : D.isi [(.str b : D), .tup [.ty "tuple", .ty "list"]] = W.pure (.bl false) := rfl
theorem D.isi_tup_bool (b : List D) : D.isi [(.tup b : D), .ty "bool"] = W.pure (.bl false) := rfl
theorem D.isi_tup_str (b : List D) : D.isi [(.tup b : D), .ty "str"] = W.pure (.bl false) := rfl
theorem D.isi_tup_tuple (b : List D) : D.isi [(.tup b : D), .ty "tuple"] = W.pure (.bl true) := rfl
theorem D.isi_tup_list (b : List D) : D.isi [(.tup b : D), .ty "list"] = W.pure (.bl false) := rfl
theorem D.isi_tup_int (b : List D) : D.isi [(.tup b : D), .ty "int"] = W.pure (.bl false) := rfl
theorem D.isi_tup_tl (b : List D) : D.isi [(.tup b : D), .tup [.ty "tuple", .ty "list"]] = W.pure (.bl true) := rfl
theorem D.isi_lst_bool (b : List D) : D.isi [(.lst b : D), .ty "bool"] = W.pure (.bl false) := rfl
theorem D.isi_lst_str (b : List D) : D.isi [(.lst b : D), .ty "str"] = W.pure (.bl false) := rfl
theorem D.isi_lst_tuple (b : List D) : D.isi [(.lst b : D), .ty "tuple"] = W.pure (.bl false) := rfl
theorem D.isi_lst_list (b : List D) : D.isi [(.lst b : D), .ty "list"] = W.pure (.bl true) := rfl
theorem D.isi_lst_int (b : List D) : D.isi [(.lst b : D), .ty "int"] = W.pure (.bl false) := rfl
theorem D.isi_lst_tl (b : List D) : D.isi [(.lst b : D), .tup [.ty "tuple", .ty "list"]] = W.pure (.bl true) := rfl
theorem D.ne_bb (a b : Bool) : D.ne (.bl a) (.bl b) = W.pure (.bl (a != b)) := by
  have e : ∀ b, SeqAt.shaped (.bool b) = true := fun b => by simp [SeqAt.shaped, PyData.canLay0, PyData.depth]
  unfold D.ne D.py?
  simp only [D.py, W.need_bind (e a), W.need_bind (e b), W.pure_bind, PyData.eqv]
  cases a <;> cases b <;> rfl
theorem D.eq_bb (a b : Bool) : D.eq (.bl a) (.bl b) = W.pure (.bl (a == b)) := by
  have e : ∀ b, SeqAt.shaped (.bool b) = true := fun b => by simp [SeqAt.shaped, PyData.canLay0, PyData.depth]
  unfold D.eq D.py?
  simp only [D.py, W.need_bind (e a), W.need_bind (e b), W.pure_bind, PyData.eqv]
theorem D.alkL_of : ∀ {xs : List D}, (∀ x ∈ xs, x.alk = true) → D.alkL xs = true
  | [], _ => rfl
  | x :: xs, h => by rw [D.alkL, h x List.mem_cons_self, D.alkL_of fun y hy => h y (List.mem_cons_of_mem _ hy)]; rfl
theorem D.alkL_iff : ∀ {xs : List D}, D.alkL xs = true ↔ ∀ x ∈ xs, x.alk = true
  | [] => by simp [D.alkL]
  | x :: xs => by simp [D.alkL, D.alkL_iff (xs := xs)]
theorem D.nodesL_map {α : Type} (xs : List α) (f : α → D) (k : Nat) (h : ∀ x ∈ xs, (f x).nodes ≤ k) : D.nodesL (xs.map f) ≤ xs.length * k := by
  induction xs with
  | nil => simp [D.nodesL]
  | cons x xs ih =>
    have h1 := h x List.mem_cons_self
    have h2 := ih fun y hy => h y (List.mem_cons_of_mem _ hy)
    rw [List.map_cons, D.nodesL, List.length_cons, Nat.add_mul]
    omega
theorem D.nodesL_append : ∀ xs ys : List D, D.nodesL (xs ++ ys) = D.nodesL xs + D.nodesL ys
  | [], ys => by simp [D.nodesL]
  | x :: xs, ys => by rw [List.cons_append, D.nodesL, D.nodesL, D.nodesL_append xs ys]; omega
theorem D.nodes_pos : ∀ d : D, 1 ≤ d.nodes
  | .non | .bl _ | .int _ | .str _ | .ty _ | .dK _ | .dT _ | .rng _ _ | .fn _ | .bag | .scr => by simp [D.nodes]
  | .tup xs | .lst xs => by simp [D.nodes]
theorem D.len_nodes : ∀ xs : List D, xs.length ≤ D.nodesL xs
  | [] => by simp [D.nodesL]
  | x :: xs => by
    have h1 := D.nodes_pos x
    have h2 := D.len_nodes xs
    rw [D.nodesL, List.length_cons]
    omega
/-- a pair of the same -/
def dup (d : D) : D := .tup [d, d]
theorem zip_dup (xs : List D) : D.zip [.tup xs, .tup xs] = W.pure (xs.map dup) ∧ D.zip [.lst xs, .lst xs] = W.pure (xs.map dup) := by
  have e : zipD xs xs = xs.map dup := by
    unfold zipD
    induction xs with
    | nil => rfl
    | cons x xs ih => rw [List.zipWith_cons_cons, ih]; rfl
  exact ⟨by rw [← e]; rfl, by rw [← e]; rfl⟩
end
end PW

set_option Elab.async false
set_option linter.all false
set_option maxRecDepth 100000
set_option maxHeartbeats 1000000
namespace PW
open PySem PySem.Spec PyProof.Rows L2 Cod
open PySem.W (keyToks keyToksAll dataLe dataLt)
/-! ### the order of rows -/
theorem lexLt_cons_self (p : Int ⊕ List Nat) (l m : List (Int ⊕ List Nat)) : PyProof.Rows.lexLt itemOrd (p :: l) (p :: m) = PyProof.Rows.lexLt itemOrd l m := PyProof.Rows.lex_self (O := itemOrd) _ l m
theorem cle_cons (a b : Int) (as bs : List Int) : cle (a :: as) (b :: bs) = (decide (a < b) || (decide (a = b) && cle as bs)) := by
  have e : ∀ x y : List Int, cle x y = !PyProof.Rows.lexLt itemOrd (keyToks (.tuple (y.map py))) (keyToks (.tuple (x.map py))) := fun _ _ => rfl
  rw [e, e]
  rw [keyToks, keyToks, keyToks, keyToks]
  show (!PyProof.Rows.lexLt itemOrd (keyToksAll (PyData.int b :: bs.map py)) (keyToksAll (PyData.int a :: as.map py))) = _
  rw [keyToksAll, keyToksAll, keyToks, keyToks]
  simp only [List.cons_append, List.nil_append]
  rw [lexLt_cons_self]
  by_cases h : a = b
  · subst h
    rw [lexLt_cons_self]
    simp
  · rw [PyProof.Rows.lex_diff (O := itemOrd) (by intro e; cases e; exact h rfl)]
    show (!decide (b < a)) = _
    by_cases h2 : a < b
    · have : ¬ b < a := by omega
      simp [h2, this]
    · have : b < a := by omega
      simp [h2, this, h]
theorem cle_nil (bs : List Int) : cle [] bs = true := by
  have e : ∀ x y : List Int, cle x y = !PyProof.Rows.lexLt itemOrd (keyToks (.tuple (y.map py))) (keyToks (.tuple (x.map py))) := fun _ _ => rfl
  cases bs with
  | nil => exact (by have := cle_total ([] : List Int) []; simpa using this)
  | cons b bs =>
    rw [e, keyToks, keyToks]
    show (!PyProof.Rows.lexLt itemOrd (keyToksAll (PyData.int b :: bs.map py)) (keyToksAll [])) = _
    rw [keyToksAll, keyToksAll, PyProof.Rows.lex_diff (O := itemOrd) (by intro e; cases e)]
    rfl
theorem cle_nil_r (a : Int) (as : List Int) : cle (a :: as) [] = false := by
  have e : ∀ x y : List Int, cle x y = !PyProof.Rows.lexLt itemOrd (keyToks (.tuple (y.map py))) (keyToks (.tuple (x.map py))) := fun _ _ => rfl
  rw [e, keyToks, keyToks]
  show (!PyProof.Rows.lexLt itemOrd (keyToksAll []) (keyToksAll (PyData.int a :: as.map py))) = _
  rw [keyToksAll, keyToksAll, PyProof.Rows.lex_diff (O := itemOrd) (by intro e; cases e)]
  rfl
theorem cle_app (r u v : List Int) : cle (r ++ u) (r ++ v) = cle u v := by
  induction r with
  | nil => rfl
  | cons x r ih => rw [List.cons_append, List.cons_append, cle_cons, ih]; simp
theorem filter_eq_iff {α : Type} {p q : α → Bool} (xs : List α) : xs.filter p = xs.filter q ↔ ∀ x ∈ xs, p x = q x := by
  constructor
  · intro h x hx
    have h1 : x ∈ xs.filter p ↔ x ∈ xs.filter q := by rw [h]
    rw [List.mem_filter, List.mem_filter] at h1
    rw [Bool.eq_iff_iff]
    exact ⟨fun h2 => (h1.mp ⟨hx, h2⟩).2, fun h2 => (h1.mpr ⟨hx, h2⟩).2⟩
  · exact List.filter_congr
def pairs (n : Int) : List (Int × Int) := (rngI 0 n).flatMap fun i => ((rngI 0 n).filter fun j => decide (i < j)).map fun j => (i, j)
theorem pairs4 : pairs 4 = [(0, 1), (0, 2), (0, 3), (1, 2), (1, 3), (2, 3)] := by decide
theorem pairs5 : pairs 5 = [(0, 1), (0, 2), (0, 3), (0, 4), (1, 2), (1, 3), (1, 4), (2, 3), (2, 4), (3, 4)] := by decide
end PW

set_option Elab.async false
set_option linter.all false
set_option maxRecDepth 100000
set_option maxHeartbeats 1000000
namespace PW
open PySem PySem.Spec PyProof.Rows L2 Cod
open PySem.W (keyToks keyToksAll alike alikeAll dataLe dataLt)
/-! ### words as typed data -/
structure OkS where
  s : Str
  ok : PyData.strOk s = true
  deriving DecidableEq
instance : Cod OkS where
  enc x := .str x.s
  py x := .str x.s
  tupk := false
  dep := 0
  hpy _ := rfl
  lay x := by simp [PyData.canLay0, x.ok]
  hdep _ := by simp [PyData.depth]
  eqv x y := by
    obtain ⟨x, hx⟩ := x
    obtain ⟨y, hy⟩ := y
    simp only [PyData.eqv]
    by_cases h : x = y <;> simp [h]
  toks x y r r' h := by
    obtain ⟨⟨⟨x⟩⟩, hx⟩ := x
    obtain ⟨⟨⟨y⟩⟩, hy⟩ := y
    simp only [keyToks, List.cons_append, List.nil_append, List.cons.injEq, Sum.inr.injEq] at h
    obtain ⟨h1, h2⟩ := h
    subst h1
    exact ⟨rfl, h2⟩
  alk x y := by simp [alike]
  nn x := by simp
  tk1 h := by cases h
  tk2 _ x xs := by simp
instance : Cod Bool where
  enc := .bl
  py := .bool
  tupk := false
  dep := 0
  hpy _ := rfl
  lay _ := by simp [PyData.canLay0]
  hdep _ := by simp [PyData.depth]
  eqv x y := by
    simp only [PyData.eqv]
    cases x <;> cases y <;> rfl
  toks x y r r' h := by
    simp only [keyToks, List.cons_append, List.nil_append, List.cons.injEq, Sum.inl.injEq] at h
    obtain ⟨h1, h2⟩ := h
    refine ⟨?_, h2⟩
    cases x <;> cases y <;> simp at h1 ⊢
  alk x y := by simp [alike]
  nn x := by simp
  tk1 h := by cases h
  tk2 _ x xs := by simp
def wd (s : String) (h : PyData.strOk (Str.ofString s) = true := by decide +kernel) : OkS := ⟨Str.ofString s, h⟩
theorem enc_wd (s : String) (h : PyData.strOk (Str.ofString s) = true) : (enc (wd s h) : D) = .str (Str.ofString s) := rfl
theorem enc_bl (b : Bool) : (enc b : D) = .bl b := rfl
/-! ### typed data are alike -/
class Alk (α : Type) [DecidableEq α] [Cod α] : Prop where
  alk : ∀ x : α, (enc x : D).alk = true
instance : Alk Int := ⟨fun _ => rfl⟩
instance : Alk Bool := ⟨fun _ => rfl⟩
instance : Alk OkS := ⟨fun x => x.ok⟩
instance {α : Type} [DecidableEq α] [Cod α] [Alk α] : Alk (List α) := ⟨fun xs => by
  rw [enc_list, D.alk]
  exact D.alkL_of fun d hd => by obtain ⟨x, _, rfl⟩ := List.mem_map.mp hd; exact Alk.alk x⟩
instance {α β : Type} [DecidableEq α] [Cod α] [Alk α] [DecidableEq β] [Cod β] [Alk β] : Alk (α × β) := ⟨fun x => by
  rw [enc_pair, D.alk, D.alkL, D.alkL, D.alkL, Alk.alk, Alk.alk]
  rfl⟩
end PW

set_option Elab.async false
set_option linter.all false
set_option maxRecDepth 100000
set_option maxHeartbeats 1000000
namespace PW
open PySem PySem.Spec PyProof.Rows L2 Cod
theorem szT : (0 ≤ sizeLine) = True := eq_true (size_le (by decide))
theorem szT1 : (0 + 1 ≤ sizeLine) = True := eq_true (size_le (by decide))
theorem szT2 : (0 + 1 + 1 ≤ sizeLine) = True := eq_true (size_le (by decide))
theorem szT3 : (0 + 1 + 1 + 1 ≤ sizeLine) = True := eq_true (size_le (by decide))
theorem szT4 : (0 + 1 + 1 + 1 + 1 ≤ sizeLine) = True := eq_true (size_le (by decide))
theorem szT5 : (0 + 1 + 1 + 1 + 1 + 1 ≤ sizeLine) = True := eq_true (size_le (by decide))
theorem szT6 : (0 + 1 + 1 + 1 + 1 + 1 + 1 ≤ sizeLine) = True := eq_true (size_le (by decide))
theorem szT7 : (0 + 1 + 1 + 1 + 1 + 1 + 1 + 1 ≤ sizeLine) = True := eq_true (size_le (by decide))
theorem szT8 : (0 + 1 + 1 + 1 + 1 + 1 + 1 + 1 + 1 ≤ sizeLine) = True := eq_true (size_le (by decide))
theorem szT9 : (0 + 1 + 1 + 1 + 1 + 1 + 1 + 1 + 1 + 1 ≤ sizeLine) = True := eq_true (size_le (by decide))
theorem szT10 : (0 + 1 + 1 + 1 + 1 + 1 + 1 + 1 + 1 + 1 + 1 ≤ sizeLine) = True := eq_true (size_le (by decide))
theorem szT11 : (0 + 1 + 1 + 1 + 1 + 1 + 1 + 1 + 1 + 1 + 1 + 1 ≤ sizeLine) = True := eq_true (size_le (by decide))
theorem szT12 : (0 + 1 + 1 + 1 + 1 + 1 + 1 + 1 + 1 + 1 + 1 + 1 + 1 ≤ sizeLine) = True := eq_true (size_le (by decide))
theorem szT13 : (0 + 1 + 1 + 1 + 1 + 1 + 1 + 1 + 1 + 1 + 1 + 1 + 1 + 1 ≤ sizeLine) = True := eq_true (size_le (by decide))
theorem szT14 : (0 + 1 + 1 + 1 + 1 + 1 + 1 + 1 + 1 + 1 + 1 + 1 + 1 + 1 + 1 ≤ sizeLine) = True := eq_true (size_le (by decide))
theorem szT15 : (0 + 1 + 1 + 1 + 1 + 1 + 1 + 1 + 1 + 1 + 1 + 1 + 1 + 1 + 1 + 1 ≤ sizeLine) = True := eq_true (size_le (by decide))
/-! ### dicts of new keys -/
theorem put_new {κ : Type} [DecidableEq κ] {kvs : List (κ × D)} {k : κ} {v : D} (h : k ∉ kvs.map (·.1)) : putD kvs k v = kvs ++ [(k, v)] := by
  unfold putD
  rw [if_neg]
  intro e
  obtain ⟨x, hx, hk⟩ := List.any_eq_true.mp e
  exact h (List.mem_map.mpr ⟨x, hx, of_decide_eq_true hk⟩)
theorem dcomp_new {α : Type} {t : Tgt} {ρ : Env} {p : Env → W Bool} {fk fv : Env → W D} (e : α → D) (st : α → Env) (k : α → Key) (v : α → D) :
    ∀ (xs : List α) (acc : List (Key × D)), (∀ x ∈ xs, t.set (e x) ρ = W.pure (st x)) → (∀ x ∈ xs, p (st x) = W.pure true) → (∀ x ∈ xs, fk (st x) = W.pure (keyD (k x))) → (∀ x ∈ xs, fv (st x) = W.pure (v x)) →
      (acc.map (·.1) ++ xs.map k).Nodup → acc.length + xs.length ≤ 100000 → dcompW t p fk fv (xs.map e) ρ acc = W.pure (acc ++ xs.map fun x => (k x, v x))
  | [], acc, _, _, _, _, _, _ => by rw [List.map_nil, dcompW, List.map_nil, List.append_nil]
  | x :: xs, acc, ht, hp, hk, hv, hn, hl => by
    rw [List.length_cons] at hl
    rw [List.map_cons] at hn
    have hx : k x ∉ acc.map (·.1) := fun h => (List.nodup_append.mp hn).2.2 _ h _ List.mem_cons_self rfl
    have hky : ∀ q : Key, asKey (keyD q) = some q := fun q => by cases q <;> rfl
    rw [List.map_cons, dcompW, ht x List.mem_cons_self, W.pure_bind, hp x List.mem_cons_self, W.pure_bind, if_pos rfl, hk x List.mem_cons_self, W.pure_bind, hv x List.mem_cons_self, W.pure_bind, hky, W.some?_some, W.pure_bind, W.need_bind (Nat.lt_of_lt_of_le (show acc.length < 1000000 by omega) (by unfold sizeLine; decide)), put_new hx,
      dcomp_new e st k v xs _ (fun y hy => ht y (List.mem_cons_of_mem _ hy)) (fun y hy => hp y (List.mem_cons_of_mem _ hy)) (fun y hy => hk y (List.mem_cons_of_mem _ hy)) (fun y hy => hv y (List.mem_cons_of_mem _ hy)) (by rw [List.map_append, List.append_assoc]; exact hn) (by rw [List.length_append, List.length_cons, List.length_nil]; omega), List.append_assoc]
    rfl
theorem dc_new {α : Type} {t : Tgt} {ρ ρ' : Env} {fi : Env → W (List D)} {p : Env → W Bool} {fk fv : Env → W D} {vs : List Nat} (xs : List α) (e : α → D) (st : α → Env) (k : α → Key) (v : α → D) (hi : fi ρ = W.pure (xs.map e)) (hw : wipeE ρ vs = ρ')
    (ht : ∀ x ∈ xs, t.set (e x) ρ' = W.pure (st x)) (hp : ∀ x ∈ xs, p (st x) = W.pure true) (hk : ∀ x ∈ xs, fk (st x) = W.pure (keyD (k x))) (hv : ∀ x ∈ xs, fv (st x) = W.pure (v x)) (hn : (xs.map k).Nodup) (hl : xs.length ≤ 100000) :
    dcW fi t p fk fv vs ρ = W.pure (.dK (xs.map fun x => (k x, v x))) := by
  unfold dcW
  rw [hi, W.pure_bind, hw, dcomp_new e st k v xs [] ht hp hk hv (by simpa using hn) (by simpa using hl), W.pure_bind]
  rfl
theorem getK_map {α κ : Type} [DecidableEq κ] (xs : List α) (k : α → κ) (v : α → D) (hn : (xs.map k).Nodup) {x : α} (hx : x ∈ xs) : getK (xs.map fun x => (k x, v x)) (k x) = some (v x) := by
  unfold getK
  induction xs with
  | nil => cases hx
  | cons y ys ih =>
    rw [List.map_cons] at hn
    obtain ⟨h1, h2⟩ := List.nodup_cons.mp hn
    rw [List.map_cons, List.find?_cons]
    rcases List.mem_cons.mp hx with rfl | hx
    · simp
    · have : k y ≠ k x := fun e => h1 (by rw [e]; exact List.mem_map.mpr ⟨x, hx, rfl⟩)
      simp only [this, decide_false]
      exact ih h2 hx
theorem getK_none {α κ : Type} [DecidableEq κ] (xs : List α) (k : α → κ) (v : α → D) {q : κ} (hq : q ∉ xs.map k) : getK (xs.map fun x => (k x, v x)) q = none := by
  unfold getK
  rw [Option.map_eq_none_iff, List.find?_eq_none]
  intro kv hkv
  obtain ⟨x, hx, rfl⟩ := List.mem_map.mp hkv
  intro e
  exact hq (List.mem_map.mpr ⟨x, hx, of_decide_eq_true e⟩)
/-- the places of the people of a row -/
def places (l : List Int) : List (Key × D) := (enumI l).map fun p => ((Sum.inl p.2 : Key), D.int p.1)
theorem places_keys (l : List Int) : (enumI l).map (fun p => (Sum.inl p.2 : Key)) = l.map Sum.inl := by
  conv => rhs; rw [← enumI_snd l]
  rw [List.map_map]
  rfl
theorem inl_nodup {l : List Int} (h : l.Nodup) : (l.map (Sum.inl : Int → Key)).Nodup := by
  unfold List.Nodup
  rw [List.pairwise_map]
  exact h.imp fun {a b} h e => h (by cases e; rfl)
theorem enumI_mem {l : List Int} {i : Nat} (h : i < l.length) : ((i : Int), l[i]) ∈ enumI l := List.mem_of_getElem? (enumI_get l i h)
theorem places_at {l : List Int} (hn : l.Nodup) {i : Nat} (h : i < l.length) : getK (places l) (Sum.inl l[i]) = some (.int i) := by
  have := getK_map (enumI l) (fun p => (Sum.inl p.2 : Key)) (fun p => D.int p.1) (by rw [places_keys]; exact inl_nodup hn) (enumI_mem h)
  exact this
theorem places_in (l : List Int) (hn : l.Nodup) (x : Int) : D.in (.int x) (.dK (places l)) = W.pure (.bl (decide (x ∈ l))) := by
  show ((W.pure (getK (places l) (Sum.inl x))).bind fun r => W.pure r.isSome).bind (fun b => W.pure (D.bl b)) = _
  by_cases h : x ∈ l
  · obtain ⟨i, hi, rfl⟩ := List.getElem_of_mem h
    rw [places_at hn hi, decide_eq_true h]
    rfl
  · rw [show getK (places l) (Sum.inl x) = none from getK_none (enumI l) (fun p => (Sum.inl p.2 : Key)) (fun p => D.int p.1) (by
      rw [places_keys]
      intro e
      obtain ⟨y, hy, e⟩ := List.mem_map.mp e
      cases e
      exact h hy), decide_eq_false h]
    rfl
theorem places_ix {l : List Int} (hn : l.Nodup) {x : Int} (h : x ∈ l) : D.ix (.dK (places l)) (.int x) = W.pure (.int (l.idxOf x : Int)) := by
  show (W.pure (getK (places l) (Sum.inl x))).bind W.some? = _
  have hi : l.idxOf x < l.length := List.idxOf_lt_length_iff.mpr h
  have e : l[l.idxOf x] = x := List.getElem_idxOf hi
  have := places_at hn hi
  rw [e] at this
  rw [this]
  rfl
end PW

set_option Elab.async false
set_option linter.all false
set_option maxRecDepth 100000
set_option maxHeartbeats 1000000
namespace PW
open PySem PySem.Spec PyProof.Rows L2
/-! ### raise C(e, ..) -/
theorem fct_xd {K : PySem.W.Frag} {H : Hp} {p : Addr} {fs : List (Str × V)} (h : Fct K H) (hp : H p = none) : Fct K (upd H p (.xd fs)) := by
  have key : ∀ {a : Addr} {o : HO}, upd H p (.xd fs) a = some o → (∀ fs, o ≠ .xd fs) → H a = some o := fun {a o} e n => by
    by_cases q : a = p
    · subst q
      rw [upd_same] at e
      cases e
      exact absurd rfl (n _)
    · rw [upd_ne q] at e
      exact e
  refine ⟨fun a xs hs => h.l a xs ?_, fun a xs hs => h.t a xs ?_⟩
  · rcases hs with (hs | ⟨o, hs⟩) | hs
    · exact .inl (.inl (key hs fun _ z => nomatch z))
    · exact .inl (.inr ⟨o, key hs fun _ z => nomatch z⟩)
    · exact .inr hs
  · rcases hs with (hs | ⟨o, hs⟩) | hs
    · exact .inl (.inl (key hs fun _ z => nomatch z))
    · exact .inl (.inr ⟨o, key hs fun _ z => nomatch z⟩)
    · exact .inr hs
theorem rpF_snoc {K : PySem.W.Frag} {mg : Str → Option Value} {z : Z} {k : Str} {v : V} {d : D} : ∀ {fs : List (Str × V)} {gs : List (Str × D)}, RpF K mg z fs gs → Rp K mg z v d → RpF K mg z (fs ++ [(k, v)]) (gs ++ [(k, d)])
  | _, _, .nil, r => .cons r .nil
  | _, _, .cons r' rs, r => .cons r' (rpF_snoc rs r)
theorem rpF_zip {K : PySem.W.Frag} {mg : Str → Option Value} {z : Z} : ∀ {fs : List Str} {vs : List V} {ds : List D}, RpL K mg z vs ds → RpF K mg z (fs.zip vs).reverse (fs.zip ds).reverse
  | [], _, _, _ => .nil
  | _ :: _, _, _, .nil => .nil
  | f :: fs, _, _, .cons r rs => by
    rw [List.zip_cons_cons, List.zip_cons_cons, List.reverse_cons, List.reverse_cons]
    exact rpF_snoc (rpF_zip rs) r
section
variable {M : Mo} {S : Fix} {e : Expr} {es : List Expr} {f : Env → W (List D)} {c : Str} {fs : List Str} {p pos pos2 : Pos}
theorem s_raise (j : Nat) (ha : EvAV M S (e :: es) f) (hx : M.xc[j]? = some (c, fs) := by rfl) (hl : decide (fs.length = es.length + 1) = true := by kernel_rfl) (hlv : decide (2 ≤ M.lv) = true := by kernel_rfl) (hg : S.sc.names.lookup c = some .globalImplicit := by kernel_rfl) (hdb : (c == ("__debug__" : Str)) = false := by kernel_rfl)
    (he : ∀ env, starEach (e :: es) env = (false, eval e env) :: starEach es env := by intro _; kernel_rfl) (hpl : ∀ env, (backTo pos (starEach es env)).any (·.1) = false := by intro _; kernel_rfl) :
    EvS M S (.Raise (some (.Call (.Name c p) (e :: es) [] pos)) none pos2) fun ρ => (f ρ).bind fun ds => (W.need (ds.length = fs.length)).bind fun _ => W.raise M.eps ⟨c, (fs.zip ds).reverse⟩ := fun X G => by
  obtain ⟨⟨C, fI, fd, hm, oex, iC, tI, hb, F1⟩, hfl⟩ := G.xc (c, fs) (List.mem_of_getElem? hx)
  refine ⟨fun pins s σ H Dn I h => ?_⟩
  obtain ⟨z0, H0, z, ρ, E, h⟩ := h
  have tk := G.tk z0 H0 E.base
  have pmk := pmk_oex (x := c) (p := p) (pos := pos) oex iC tI F1 (G.room.mono (of_decide_eq_true hlv)) hb .nil (passes_call tk fun _ _ _ _ z => z.elim) (gl_of G hg) hm (ha X G) hdb (he _) (hpl _)
  refine (ps_raise (pos := pos2) G.calm tk pmk).run pins s σ H Dn I ?_
  have hK : Fct X.K H := fct_of I
  refine ⟨z0, H0, z, ρ, E, (f ρ).mono (fun ds k vs z1 H1 st1 fc1 r1 => ?_) h⟩
  obtain ⟨hds, k⟩ := k
  have k : M.eps ⟨c, (fs.zip ds).reverse⟩ := k
  have hvl : vs.length = fs.length := by rw [r1.length]; exact hds
  refine ⟨by rw [hvl]; have : fs.length ≤ 900 := hfl; omega, fun a ha' => ⟨a, vs, by rw [List.append_nil], hvl, upd_same, fun dx hdx hne => ⟨rfl, dx, (fs.zip vs).reverse, upd_same, ?_, ?_, ?_⟩⟩⟩
  · rw [upd_ne hne, upd_same]
  · rwa [upd_ne hne] at hdx
  · have hd1 : H1 dx = none := by rwa [upd_ne hne] at hdx
    have eH : upd (del (upd (upd (upd H1 a (exo a C none)) dx (exd dx (fs.zip vs).reverse)) a (exo a C (some dx))) a) dx (.xd (fs.zip vs).reverse) = upd H1 dx (.xd (fs.zip vs).reverse) := by
      funext b
      by_cases h1 : b = dx
      · rw [h1, upd_same, upd_same]
      · rw [upd_ne h1, upd_ne h1]
        by_cases h2 : b = a
        · rw [h2, ha']; simp [del]
        · simp only [del, if_neg h2]
          rw [upd_ne h2, upd_ne h1, upd_ne h2]
    rw [eH]
    exact ⟨⟨c, (fs.zip ds).reverse⟩, z1, k, (E.st.trans st1).trans (Step.fresh st1.ok hd1), fct_xd fc1 hd1, C, hm, rfl, .inr ⟨dx, _, rfl, upd_same, rpF_zip r1⟩⟩
end

/-! ### x(lambda: body), x's def answering with what is told or what is refused -/
def heardW (h : HSh) (g : Eps → W D) : W D := ⟨fun Q => ∃ Q0 : D → Prop, (∀ d, Q0 d → Q d) ∧ (g fun x => ∃ d, x.cls = h.cls ∧ x.fs = [(h.at_, d)] ∧ Q0 (.tup [.str h.lab, d])).run fun d => Q0 (.tup [.str h.told, d]), fun hm ⟨Q0, a, b⟩ => ⟨Q0, fun d x => hm d (a d x), b⟩⟩
/-- what the lambda's body may count on -/
def Mo.inLam (M : Mo) (ε : Eps) : Mo := { M with eps := ε, lv := M.lv - 2, lam := false, gd := false }
open LamX
theorem ext_step {K : PySem.W.Frag} {z : Z} {H H1 : Hp} (ok : ZOk K z H) (e : ExtN H H1) (hT : Tabs z.tb H1) : ∃ z1, Step K z H z1 H1 := by
  classical
  have inz : ∀ {b : Addr} {o : HO}, z.f b = some o → H1 b = some o := fun {b o} h => e _ _ (ok.sub _ _ h) fun ps q => by have := ok.nb _ _ h; rw [q] at this; exact this
  refine ⟨⟨fun b => if ∃ q, H1 b = some (CodeO b q) then H1 b else z.f b, z.bg, z.tb⟩, ⟨fun b o h => ?_, fun _ _ h => h, rfl⟩, ⟨fun b o h => ?_, fun a ha => ?_, fun b o h => ?_⟩, fun b o _ h n => e _ _ h fun ps q => by rw [q] at n; exact n, fun b o h1 h2 h3 => ?_, fun b h => .inl h⟩
  · show (if ∃ q, H1 b = some (CodeO b q) then H1 b else z.f b) = some o
    by_cases q : ∃ q, H1 b = some (CodeO b q)
    · rw [if_pos q]; exact inz h
    · rw [if_neg q]; exact h
  · have h : (if ∃ q, H1 b = some (CodeO b q) then H1 b else z.f b) = some o := h
    by_cases q : ∃ q, H1 b = some (CodeO b q)
    · rw [if_pos q] at h; exact h
    · rw [if_neg q] at h; exact inz h
  · have ha' : z.β a := ha
    obtain ⟨f0, h1, h2⟩ := ok.bag a ha'
    have same : Same z.f (fun b => if ∃ q, H1 b = some (CodeO b q) then H1 b else z.f b) := fun b o h => by
      show (if ∃ q, H1 b = some (CodeO b q) then H1 b else z.f b) = some o
      by_cases q : ∃ q, H1 b = some (CodeO b q)
      · rw [if_pos q]; exact inz h
      · rw [if_neg q]; exact h
    have tabAt : ∀ q, (a, q) ∈ z.tb → ∃ ps, H1 a = some (.tbl ps) := fun q hq => let ⟨ps, h, _⟩ := hT _ hq; ⟨ps, h⟩
    have bagAt : ∀ c, z.bg a c → ∃ vs, H1 a = some (.lst vs) := fun c hb => by
      obtain ⟨b0, b1, b2, cs, q, _⟩ := h1 c hb
      exact ⟨_, e _ _ q fun ps z => nomatch z⟩
    refine ⟨?_, fun c hb => ?_, fun q hq => ?_⟩
    · show (if ∃ q, H1 a = some (CodeO a q) then H1 a else z.f a) = none
      rw [if_neg, f0]
      intro ⟨q, hq⟩
      rcases ha' with ⟨c', hb⟩ | ⟨q', hb⟩
      · obtain ⟨vs, q2⟩ := bagAt c' hb
        rw [hq] at q2
        exact nomatch Option.some.inj q2
      · obtain ⟨ps, q2⟩ := tabAt q' hb
        rw [hq] at q2
        exact codeO_ne ps (Option.some.inj q2)
    · refine (h1 c hb).le same fun o h => e _ _ h fun ps q => ?_
      obtain ⟨b0, b1, b2, cs, q1, _⟩ := h1 c hb
      rw [q, q1] at h
      cases h
    · obtain ⟨ps, p1, p2, p3⟩ := hT _ hq
      refine ⟨ps, p1, p2, fun pos cv hc => ?_⟩
      obtain ⟨c, rfl, hc2⟩ := p3 pos cv hc
      refine ⟨c, rfl, ?_⟩
      show (if ∃ q, H1 c = some (CodeO c q) then H1 c else z.f c) = _
      rw [if_pos ⟨q, hc2⟩]
      exact hc2
  · have h : (if ∃ q, H1 b = some (CodeO b q) then H1 b else z.f b) = some o := h
    by_cases q : ∃ q, H1 b = some (CodeO b q)
    · obtain ⟨q', hq⟩ := q
      rw [if_pos ⟨q', hq⟩, hq] at h
      cases h
      trivial
    · rw [if_neg q] at h; exact ok.nb _ _ h
  · show (if ∃ q, H1 b = some (CodeO b q) then H1 b else z.f b) = none
    rw [if_neg, h1]
    intro ⟨q, hq⟩
    have := e _ _ h2 fun ps q => by rw [q] at h3; exact h3
    rw [hq] at this
    cases this
    exact h3

section
variable {M : Mo} {S : Fix} {x : Str} {h : HSh} {params : Arguments} {body : Expr} {scope : Scope} {f : Eps → Env → W D} {p lpos pos : Pos}
def Good.lamb {X : Cx} (G : Good M S X) (hl : M.lam = true) (L : LamS X.env.scope scope) {A : Around} {outer : List PySem.Env} {s : Shared} {H : Hp} {E : XK} {fa c' : Addr} (ε : Eps) (hr : Room (M.lv - 2) (A.deeper (lamEnv X scope s.heap.objs.size fa c'))) :
    Good (M.inLam ε) ⟨S.N, scope, fun _ => false, []⟩ (lamCx X A outer s H E scope fa c') :=
  ⟨fun z H => z.tb = G.tb ∧ ∀ cls d H', wx X.K X.mg ε z H cls d H' → E cls d H', G.N, G.nd, rfl, rfl, rfl, fun z H h => (takes_of rfl rfl rfl rfl).imp fun _ _ _ _ q => h.2 _ _ _ q, passes_of rfl, G.tb, fun _ _ h => h.1, (G.ltab hl).2, hr, G.free, G.con, G.xc, fun h => Bool.noConfusion h, fun h => Bool.noConfusion h, G.hd, fun h => Bool.noConfusion h⟩
theorem v_heard (j : Nat) (hb : ∀ ε, EvV (M.inLam ε) ⟨S.N, scope, fun _ => false, []⟩ body (f ε)) (hx : M.hd[j]? = some (x, h) := by rfl) (hl : M.lam = true := by rfl) (hg : S.sc.names.lookup x = some .globalImplicit := by kernel_rfl) (hL : lamSB S.sc scope = true := by kernel_rfl) (hdef : ∀ env, defaultsOf params env = ([], []) := by intro _; kernel_rfl)
    (hbind : ∀ (q : Str) (cl : List (Str × Addr)) (pm cv ctv : Value), bindArgs (PySem.W.kla_fn "<lambda>" q params body scope cl pm cv ctv) ⟨[], []⟩ = pure [] := by intros; kernel_rfl) (hdb : (x == ("__debug__" : Str)) = false := by kernel_rfl) :
    EvV M S (.Call (.Name x p) [.Lambda params body scope lpos] [] pos) fun ρ => heardW h fun ε => f ε (wipeE ρ S.mt) := fun X G => by
  obtain ⟨g, CS, fd, pr, sg, a, en, j1, j2, x1, x2, p1, p2, p3, p4, p5, p6, p7, p8, p9, p10, p11, p12, p13, hm, F, hS, hbd, hgc, hdc, hal, hen, ha1, ha2, he1, he2, hmc, hxf, hno, hex⟩ := (G.hd (x, h) (List.mem_of_getElem? hx)).ex
  have hbK := F.bindsN (ps := [a]) hbd
  obtain ⟨oc, od, dV, kV', doc, pm, an, cdv, ct, osl, rfl, lk, hcd, hD, _⟩ := F.ex
  obtain ⟨c, P, hcode, TB, hmT, hu⟩ := G.lam hl
  have L : LamS X.env.scope scope := by rw [G.sc]; exact lamS_by hL
  have core := pe_lamcall (X := X) (T := G.tb) (TT := TTh X.K X.mg h) (k := M.lv - 2) (p := p) (lpos := lpos) (pos := pos) (t := fun E σ H Q => ∃ ε, tV X.K X.mg ⟨[], fun z H => z.tb = G.tb ∧ ∀ cls d H', wx X.K X.mg ε z H cls d H' → E cls d H'⟩ (f ε) σ H Q)
    (gl_of G hg) hm F.kp lk hcd hbK (C8.fnScope_by hS) rfl (.inl hal) (heard_gives hS hgc hdc hen he1 he2 hmc hxf hno hex) TB hcode hmT hu (G.room.mono (by have := (G.ltab hl).1; omega)) L (hdef _) hbind
    (fun A outer s H E fa c' hr => ⟨fun pins s' σ H' Q I ⟨ε, ht⟩ => (hb ε _ (G.lamb hl L ε hr)).run pins s' σ H' Q I ht⟩) hdb ha1 ha2
  refine core.impW fun σ H Q fc ⟨z0, H0, z, ρ, E, Q0, hQ0, hh⟩ => ?_
  have etb : z.tb = G.tb := E.st.le.tb.trans (G.tz _ _ E.base)
  refine ⟨fun q hq => ?_, fun H1 eN T1 => ?_⟩
  · obtain ⟨ps, q1, q2, q3⟩ := E.ok.bag.tab (a := q.1) (q := q.2) (by rw [etb]; exact hq)
    exact ⟨ps, q1, q2, fun pos cv hc => let ⟨c, e1, e2⟩ := q3 pos cv hc; ⟨c, e1, E.ok.sub _ _ e2⟩⟩
  · obtain ⟨z1, st1⟩ := ext_step E.ok eN (by rw [etb]; exact T1)
    refine ⟨wx X.K X.mg _ z1 H1, fun cls d H' hw => ?_, _, z1, H1, z1, wipeE ρ S.mt, ⟨Step.refl st1.ok, ⟨st1.le.tb.trans etb, fun _ _ _ q => q⟩, by rw [wipeE_len]; exact E.len, fun i d _ e => ?_, fun i d hi e => absurd hi List.not_mem_nil, fun i j d e hi => absurd hi List.not_mem_nil⟩,
      (f _ _).mono (fun d k v z2 H2 st2 fc2 r2 => ⟨by unfold sizeLine; simp, fun p hp => ?_⟩) hh⟩
    · obtain ⟨xd, z2, ⟨d0, hc1, hc2, hq⟩, st2, fc2, C, hmC, rfl, hf⟩ := hw
      rw [hc1] at hmC
      refine ⟨hmC, ?_⟩
      rw [hc2] at hf
      rcases hf with ⟨z, _⟩ | ⟨dx, fs, rfl, hdx, rf⟩
      · cases z
      · cases rf with
        | cons r0 rn =>
          cases rn
          rename_i v
          refine ⟨dx, _, v, rfl, hdx, by simp [List.lookup], fun p hp fc3 => ?_⟩
          have st3 := Step.put (o := .tup [.str h.lab, v]) st2.ok hp trivial
          exact hQ0 _ hq (.ref p) _ _ ((st1.trans st2).trans st3) fc3 (.tup Z.put_at (.cons (.str _) (.cons (r0.le st3.le) .nil)))
    · obtain ⟨e1, e2⟩ := wipeE_some e
      obtain ⟨v, e3, r⟩ := E.val i d e2 e1
      exact ⟨v, e3, r.le st1.le⟩
    · have st3 := Step.put (o := .tup [.str h.told, v]) st2.ok hp trivial
      exact fun fc3 => hQ0 _ k (.ref p) _ _ ((st1.trans st2).trans st3) fc3 (.tup Z.put_at (.cons (.str _) (.cons (r2.le st3.le) .nil)))
end
end PW

set_option Elab.async false
set_option linter.all false
set_option maxRecDepth 100000
set_option maxHeartbeats 1000000
namespace PW
open PySem PySem.Spec PyProof.Rows L2
/-! ### an own object lent to an expression whose value holds no lists, no dicts -/
mutual
def D.nl : D → Bool
  | .non | .bl _ | .int _ | .str _ | .ty _ => true
  | .tup xs => D.nlL xs
  | .lst _ | .dK _ | .dT _ | .rng _ _ | .fn _ | .bag | .scr => false
def D.nlL : List D → Bool
  | [] => true
  | x :: xs => x.nl && D.nlL xs
end
section
variable {K : PySem.W.Frag} {mg : Str → Option Value} {z z' z0 : Z} {H H' H0 : Hp} {a : Addr} {o : HO} {mt : Mt} {σ : Sg} {ρ : Env}
/-- the object unknown again -/
def Z.out (z' : Z) (z : Z) (a : Addr) : Z := ⟨fun b => if b = a then none else z'.f b, z.bg, z.tb⟩
theorem out_f (h : z'.f a = some o) (ho : o.nt) {c : Addr} {vs : List V} (q : z'.f c = some (.tup vs)) : (z'.out z a).f c = some (.tup vs) := by
  show (if c = a then none else z'.f c) = _
  rw [if_neg (fun x => by rw [x, h] at q; cases q; exact ho)]
  exact q
mutual
theorem Rp.out (h : z'.f a = some o) (ho : o.nt) : ∀ {v : V} {d : D}, Rp K mg z' v d → d.nl = true → Rp K mg (z'.out z a) v d
  | _, _, .non, _ => .non
  | _, _, .bl b, _ => .bl b
  | _, _, .int b, _ => .int b
  | _, _, .str b, _ => .str b
  | _, _, .ty b, _ => .ty b
  | _, _, .tup q r, e => .tup (out_f h ho q) (RpL.out h ho r (by rw [D.nl] at e; exact e))
  | _, _, .lst _ _, e => by rw [D.nl] at e; cases e
  | _, _, .dK _ _, e => by rw [D.nl] at e; cases e
  | _, _, .dT _ _, e => by rw [D.nl] at e; cases e
  | _, _, .rng _, e => by rw [D.nl] at e; cases e
  | _, _, .fn _ _, e => by rw [D.nl] at e; cases e
  | _, _, .bag _, e => by rw [D.nl] at e; cases e
  | _, _, .scr _ _, e => by rw [D.nl] at e; cases e
theorem RpL.out (h : z'.f a = some o) (ho : o.nt) : ∀ {v : List V} {d : List D}, RpL K mg z' v d → D.nlL d = true → RpL K mg (z'.out z a) v d
  | _, _, .nil, _ => .nil
  | _, _, .cons r rs, e => by
    rw [D.nlL, Bool.and_eq_true] at e
    exact .cons (r.out h ho e.1) (rs.out h ho e.2)
end
theorem Step.out (ok : ZOk K z H) (hf : z.f a = none) (hβ : ¬ z.β a) (ho : o.nt) (ha : H a = some o) (s : Step K (z.put a o) H z' H') : z'.f a = some o ∧ Step K z H (z'.out z a) H' := by
  have fa : z'.f a = some o := s.le.f _ _ Z.put_at
  have up : ∀ {b : Addr} {x : HO}, z.f b = some x → z'.f b = some x := fun {b x} e => s.le.f _ _ (by
    show upd z.f a o b = some x
    rw [upd_ne (ne_of_none e hf)]
    exact e)
  have oe : ∀ {b : Addr}, b ≠ a → (z'.out z a).f b = z'.f b := fun {b} h => if_neg h
  refine ⟨fa, ⟨⟨fun b x e => ?_, fun _ _ h => h, rfl⟩, ⟨fun b x e => ?_, fun b hb => ?_, fun b x e => ?_⟩, fun b x h1 h2 h3 => s.keep b x h1 h2 h3, fun b x h1 h2 h3 => ?_, fun b h => .inl h⟩⟩
  · rw [oe (ne_of_none e hf)]
    exact up e
  · by_cases q : b = a
    · have e : (if b = a then none else z'.f b) = some x := e
      rw [if_pos q] at e; cases e
    · rw [oe q] at e; exact s.ok.sub _ _ e
  · have hb : z.β b := hb
    have hb' : z'.β b := s.le.β b hb
    obtain ⟨f0, h1, h2⟩ := s.ok.bag b hb'
    refine ⟨?_, fun c hc => ?_, fun q hq => ?_⟩
    · show (if b = a then none else z'.f b) = none
      split
      · rfl
      · exact f0
    · obtain ⟨b0, b1, b2, cs, q1, q2, q3⟩ := h1 c (s.le.bg _ _ hc)
      obtain ⟨_, _, _, _, _, _, w, _⟩ := ok.bag.bag hc
      refine ⟨b0, b1, b2, cs, q1, ?_, q3⟩
      rw [oe (ne_of_none w hf)]
      exact q2
    · obtain ⟨ps, q1, q2, q3⟩ := h2 q (by rw [s.le.tb]; exact hq)
      refine ⟨ps, q1, q2, fun pos cv hc => ?_⟩
      obtain ⟨c, e1, e2⟩ := q3 pos cv hc
      refine ⟨c, e1, ?_⟩
      rw [oe (fun x => by rw [x, fa] at e2; cases e2; exact ho)]
      exact e2
  · by_cases q : b = a
    · have e : (if b = a then none else z'.f b) = some x := e
      rw [if_pos q] at e; cases e
    · rw [oe q] at e; exact s.ok.nb _ _ e
  · by_cases q : b = a
    · show (if b = a then none else z'.f b) = none
      rw [if_pos q]
    · rw [oe q]
      refine s.new b x ?_ h2 h3
      show upd z.f a o b = none
      rw [upd_ne q]
      exact h1
/-- known from now on, its slot one of values -/
theorem EnvR.lend (E : EnvR mt K mg z0 H0 z H σ ρ) {i : Nat} {d : D} (hi : i ∈ mt) (hd : ρ[i]? = some (some d)) : ∃ a o, σ[i]? = some (some (.ref a)) ∧ z.f a = none ∧ ¬ z.β a ∧ o.nt ∧ H a = some o ∧ EnvR ⟨mt.l.filter (fun j => decide (j ≠ i)), mt.ok⟩ K mg z0 H0 (z.put a o) H σ ρ := by
  obtain ⟨v, e2, a, o, rfl, f0, h0, b, q, c⟩ := E.own i d hi hd
  have ok := E.ok.freeze f0 b q c.nt.nb
  have le : Z.le z (z.put a o) := Z.le_put f0
  have st : Step K z0 H0 (z.put a o) H := ⟨E.st.le.trans le, ok, E.st.keep, fun x o' h1 h2 h3 => by
    show upd z.f a o x = none
    rw [upd_ne (ne_of_fr h2 h3.nb h0)]
    exact E.st.new x o' h1 h2 h3, fun x e => E.st.βn x e⟩
  have mem : ∀ {j : Nat}, j ∈ mt.l.filter (fun j => decide (j ≠ i)) ↔ j ∈ mt.l ∧ j ≠ i := fun {j} => by rw [List.mem_filter]; simp
  refine ⟨a, o, e2, f0, b, c.nt, q, st, E.base, E.len, fun j e hj q1 => ?_, fun j e hj q1 => ?_, fun j k d1 e1 hj hk hjk q1 q2 => E.apart j k d1 e1 (mem.mp hj).1 (mem.mp hk).1 hjk q1 q2⟩
  · by_cases hji : j = i
    · subst hji
      rw [hd] at q1
      cases q1
      exact ⟨_, e2, (c.le le).rp Z.put_at⟩
    · obtain ⟨v, e3, r⟩ := E.val j e (fun m => hj (mem.mpr ⟨m, hji⟩)) q1
      exact ⟨v, e3, r.le le⟩
  · obtain ⟨hm, hji⟩ := mem.mp hj
    obtain ⟨v, e3, a2, o2, rfl, g0, k0, b2, q2, c2⟩ := E.own j e hm q1
    have na : a2 ≠ a := fun x => E.apart j i e d hm hi hji q1 hd (by rw [e3, e2, x])
    refine ⟨_, e3, a2, o2, rfl, ?_, k0, fun x => b2 x, q2, c2.le le⟩
    show upd z.f a o a2 = none
    rw [upd_ne na]
    exact g0
end

def Fix.lend (S : Fix) (i : Nat) : Fix := { S with mt := S.mt.filter (fun j => decide (j ≠ i)) }
def Good.lend {M : Mo} {S : Fix} {X : Cx} (G : Good M S X) (i : Nat) : Good M (S.lend i) X :=
  ⟨G.ok, G.N, G.nd, G.sc, G.fn, G.calm, G.tk, G.po, G.tb, G.tz, G.tab, G.room, G.free, G.con, G.xc, G.lam, G.ltab, G.hd, G.gd⟩
theorem EnvR.unlend {K : PySem.W.Frag} {mg : Str → Option Value} {z z0 : Z} {H H0 : Hp} {mt : Mt} {σ : Sg} {ρ : Env} {i : Nat} (E : EnvR ⟨mt.l.filter (fun j => decide (j ≠ i)), mt.ok⟩ K mg z0 H0 z H σ ρ) : EnvR mt K mg z0 H0 z H σ (ρ.set i none) := by
  have mem : ∀ {j : Nat}, j ∈ mt.l.filter (fun j => decide (j ≠ i)) ↔ j ∈ mt.l ∧ j ≠ i := fun {j} => by rw [List.mem_filter]; simp
  have hne : ∀ {j : Nat} {e : D}, (ρ.set i none)[j]? = some (some e) → j ≠ i ∧ ρ[j]? = some (some e) := fun {j e} q => by
    by_cases h : i = j
    · subst h
      by_cases hl : i < ρ.length
      · rw [List.getElem?_set_self hl] at q; cases q
      · rw [List.getElem?_eq_none (by rw [List.length_set]; omega)] at q; cases q
    · rw [List.getElem?_set_ne h] at q
      exact ⟨fun x => h x.symm, q⟩
  exact ⟨E.st, E.base, by rw [List.length_set]; exact E.len, fun j e hj q => E.val j e (fun m => hj (mem.mp m).1) (hne q).2, fun j e hj q => E.own j e (mem.mpr ⟨hj, (hne q).1⟩) (hne q).2,
    fun j k d1 e1 hj hk hjk q1 q2 => E.apart j k d1 e1 (mem.mpr ⟨hj, (hne q1).1⟩) (mem.mpr ⟨hk, (hne q2).1⟩) hjk (hne q1).2 (hne q2).2⟩
def Out.forget (i : Nat) : Out → Out
  | .nx ρ => .nx (ρ.set i none)
  | .bk ρ => .bk (ρ.set i none)
  | .ct ρ => .ct (ρ.set i none)
  | .rt d => .rt d
section
variable {M : Mo} {S : Fix} {e : Expr} {st : Stmt} {f : Env → W D} {p : Env → W Bool} {w : Env → W Out}
theorem v_bor (i : Nat) (he : EvV M (S.lend i) e f) (hi : S.mt.contains i = true := by kernel_rfl) : EvV M S e fun ρ => (getV ρ i).bind fun _ => (f ρ).bind fun d => (W.need (d.nl = true)).bind fun _ => W.pure d := fun X G =>
  (he X (G.lend i)).impW fun σ H Q fc ⟨z0, H0, z, ρ, E, h⟩ => by
    obtain ⟨d, e1, k⟩ := getV_run h
    obtain ⟨a, o, e2, hf, hβ, ho, ha, E'⟩ := E.lend (List.contains_iff_mem.mp hi) e1
    refine ⟨z0, H0, z.put a o, ρ, E', (f ρ).mono (fun d k v z' H' st fc r _ => ?_) k⟩
    obtain ⟨hnl, k⟩ := k
    obtain ⟨fa, s2⟩ := Step.out E.ok hf hβ ho ha st
    exact k v _ H' s2 fc (r.out fa ho hnl)
theorem t_bor (i : Nat) (he : EvT M (S.lend i) e p) (hi : S.mt.contains i = true := by kernel_rfl) : EvT M S e fun ρ => (getV ρ i).bind fun _ => p ρ := fun X G =>
  (he X (G.lend i)).impW fun σ H Q fc ⟨z0, H0, z, ρ, E, h⟩ => by
    obtain ⟨d, e1, k⟩ := getV_run h
    obtain ⟨a, o, e2, hf, hβ, ho, ha, E'⟩ := E.lend (List.contains_iff_mem.mp hi) e1
    refine ⟨z0, H0, z.put a o, ρ, E', (p ρ).mono (fun b k z' H' st fc _ => ?_) k⟩
    obtain ⟨fa, s2⟩ := Step.out E.ok hf hβ ho ha st
    exact k _ H' s2 fc
theorem s_giv (i : Nat) (he : EvS M (S.lend i) st w) (hi : S.mt.contains i = true := by kernel_rfl) : EvS M S st fun ρ => (getV ρ i).bind fun _ => (w ρ).bind fun o => W.pure (o.forget i) := fun X G =>
  (he X (G.lend i)).impW fun Dn σ H fc ⟨z0, H0, z, ρ, E, h⟩ => by
    obtain ⟨d, e1, k⟩ := getV_run h
    obtain ⟨a, o, e2, hf, hβ, ho, ha, E'⟩ := E.lend (List.contains_iff_mem.mp hi) e1
    have le : Z.le z (z.put a o) := Z.le_put hf
    refine ⟨z0, H0, z.put a o, ρ, E', (w ρ).mono (fun o' k => ?_) k⟩
    have k : kS X.K X.mg G.m z0 H0 z Dn (o'.forget i) := k
    cases o' with
    | nx ρ' => exact fun σ' z' H' l E2 _ => k σ' z' H' (le.trans l) (EnvR.unlend (mt := G.m) (i := i) E2)
    | bk ρ' => exact fun σ' z' H' l E2 _ => k σ' z' H' (le.trans l) (EnvR.unlend (mt := G.m) (i := i) E2)
    | ct ρ' => exact fun σ' z' H' l E2 _ => k σ' z' H' (le.trans l) (EnvR.unlend (mt := G.m) (i := i) E2)
    | rt d => exact fun v z' H' s f r _ => k v z' H' s f r
end
end PW

set_option Elab.async false
set_option linter.all false
set_option maxRecDepth 100000
set_option maxHeartbeats 1000000
namespace PW
open PySem PySem.Spec PyProof.Rows L2
section
variable {M : Mo} {S : Fix} {e e2 : Expr} {f g h : Env → W D} {pos : Pos}
/-! ### d.get(k, x) -/
def D.isD : D → W Unit
  | .dK _ => W.pure ()
  | .dT _ => W.pure ()
  | _ => W.fail
theorem isD_run {X : Cx} {z : Z} {H : Hp} {v : V} {d : D} {Q : Unit → Prop} (ok : ZOk X.K z H) (r : RB X.K X.mg z H v d) (h : d.isD.run Q) : ∃ a, v = .ref a ∧ IsD H a ∧ Q () := by
  cases d with
  | dK kvs => obtain ⟨a, vs, rfl, q, _⟩ := r.dK ok; exact ⟨a, rfl, .inl ⟨_, .inl q⟩, h⟩
  | dT kvs => obtain ⟨a, vs, rfl, q, _⟩ := r.dT ok; exact ⟨a, rfl, .inr ⟨_, .inl q⟩, h⟩
  | _ => exact (show False from h).elim
theorem v_get2 {o : Expr} {p1 p2 : Pos} (ho : EvB M S o f) (hk : EvV M S e g) (hd : EvV M S e2 h)
    (hbase : ∀ env, attributeBase o "get" env (eval o env) = eval o env := by intro _; kernel_rfl)
    (hfew : ∀ env, ((backTo p2 (starEach [e, e2] env)).all (fun x => !x.1) && (backToKw p2 (keywordEach [] env)).all (fun x => x.1.isSome) && decide (([e, e2] : List Expr).length + ([] : List Keyword).length + (if ([] : List Keyword).isEmpty then 0 else 1) < 30)) = true := by intro _; kernel_rfl)
    (hline : (p1.endLine == p2.line) = true := by kernel_rfl) (htr : ∀ env, backTo p2 (starEach [e, e2] env) = [(false, eval e env), (false, eval e2 env)] := by intro _; kernel_rfl) :
    EvV M S (.Call (.Attribute o "get" p1) [e, e2] [] p2) fun ρ => (f ρ).bind fun c => c.isD.bind fun _ => (g ρ).bind fun k => (h ρ).bind fun x => (c.find k).bind fun r => W.pure (r.getD x) := fun X G => by
  refine (pe_dget2 (by have := G.room.un; omega) (ho X G) (hk X G) (hd X G) ⟨hbase _, hfew _, hline, htr _⟩).impW fun σ H Q fc ⟨z0, H0, z, ρ, E, hh⟩ => ?_
  refine ⟨z0, H0, z, ρ, E, (f ρ).mono (fun c k v z1 H1 st1 fc1 r1 => ?_) hh⟩
  obtain ⟨a, rfl, hD, k⟩ := isD_run (X := X) st1.ok r1 k
  refine ⟨a, rfl, hD, z0, H0, z1, ρ, E.step st1, (g ρ).mono (fun kd k v2 z2 H2 st2 fc2 r2 => ?_) k⟩
  refine ⟨z0, H0, z2, ρ, (E.step st1).step st2, (h ρ).mono (fun xd k v3 z3 H3 st3 fc3 r3 => ?_) k⟩
  obtain ⟨a', o', r, ea, hg, k, hr⟩ := find_run st3.ok ((r1.step st2).step st3) (r2.le st3.le) k
  cases ea
  refine ⟨o', hg, fun _ => ?_⟩
  rcases hr with ⟨rfl, rfl⟩ | ⟨v, d, rfl, rfl, r⟩
  · exact k v3 z3 H3 ((st1.trans st2).trans st3) fc3 r3
  · exact k v z3 H3 ((st1.trans st2).trans st3) fc3 r
end
section
variable {M : Mo} {S : Fix} {e e1 e2 : Expr} {f g : Env → W D} {pos : Pos}
/-! ### x.append(y.pop(e)), x and y own lists -/
theorem RpL.eraseIdx {K : PySem.W.Frag} {mg : Str → Option Value} {z : Z} : ∀ {v : List V} {d : List D} {k : Nat}, RpL K mg z v d → RpL K mg z (v.eraseIdx k) (d.eraseIdx k)
  | _, _, _, .nil => .nil
  | _, _, 0, .cons _ r => r
  | _, _, k + 1, .cons h r => .cons h r.eraseIdx
def D.popAt (ys : List D) : D → W Nat
  | .int n => (W.need (0 ≤ n ∧ n.toNat < ys.length ∧ ys.length < 1000000000)).bind fun _ => W.pure n.toNat
  | _ => W.fail
theorem s_appPop (i j : Nat) {x y : Str} {p1 p2 p3 q1 q2 q3 : Pos} (he : EvV M S e f) (hN : S.N[i]? = some x := by kernel_rfl) (hv : visC S.sc x = true := by kernel_rfl) (hi : S.mt.contains i = true := by kernel_rfl) (hN2 : S.N[j]? = some y := by kernel_rfl) (hv2 : visC S.sc y = true := by kernel_rfl) (hj : S.mt.contains j = true := by kernel_rfl) (hij : i ≠ j := by decide)
    (hd : (x == ("__debug__" : Str)) = false := by kernel_rfl) (hcd : (x == ("__classdict__" : Str)) = false := by kernel_rfl) (hd2 : (y == ("__debug__" : Str)) = false := by kernel_rfl) (hcd2 : (y == ("__classdict__" : Str)) = false := by kernel_rfl)
    (hbase : ∀ env, attributeBase (.Name x p1) "append" env (eval (.Name x p1) env) = eval (.Name x p1) env := by intro _; kernel_rfl) (hbase2 : ∀ env, attributeBase (.Name y q1) "pop" env (eval (.Name y q1) env) = eval (.Name y q1) env := by intro _; kernel_rfl)
    (hfew : ∀ env, ((backTo p3 (starEach [.Call (.Attribute (.Name y q1) "pop" q2) [e] [] q3] env)).all (fun x => !x.1) && (backToKw p3 (keywordEach [] env)).all (fun x => x.1.isSome) && decide ([(.Call (.Attribute (.Name y q1) "pop" q2) [e] [] q3 : Expr)].length + ([] : List Keyword).length + (if ([] : List Keyword).isEmpty then 0 else 1) < 30)) = true := by intro _; kernel_rfl)
    (hfew2 : ∀ env, ((backTo q3 (starEach [e] env)).all (fun x => !x.1) && (backToKw q3 (keywordEach [] env)).all (fun x => x.1.isSome) && decide ([e].length + ([] : List Keyword).length + (if ([] : List Keyword).isEmpty then 0 else 1) < 30)) = true := by intro _; kernel_rfl)
    (hline : (p2.endLine == p3.line) = true := by kernel_rfl) (hline2 : (q2.endLine == q3.line) = true := by kernel_rfl)
    (hs : ∀ env, starEach [.Call (.Attribute (.Name y q1) "pop" q2) [e] [] q3] env = (false, eval (.Call (.Attribute (.Name y q1) "pop" q2) [e] [] q3) env) :: starEach [] env := by intro _; kernel_rfl) (hs2 : ∀ env, starEach [e] env = (false, eval e env) :: starEach [] env := by intro _; kernel_rfl)
    (hplain : ∀ env, (backTo p3 (starEach [] env)).any (·.1) = false := by intro _; kernel_rfl) (hplain2 : ∀ env, (backTo q3 (starEach [] env)).any (·.1) = false := by intro _; kernel_rfl)
    (hsw : ∀ env, swapsWith (.Call (.Attribute (.Name x p1) "append" p2) [.Call (.Attribute (.Name y q1) "pop" q2) [e] [] q3] [] p3) none pos.line env = pure false := by intro _; kernel_rfl) :
    EvS M S (.Expr (.Call (.Attribute (.Name x p1) "append" p2) [.Call (.Attribute (.Name y q1) "pop" q2) [e] [] q3] [] p3) pos) fun ρ => (getV ρ i).bind fun l => l.asLst.bind fun xs => (getV ρ j).bind fun m => m.asLst.bind fun ys => (f ρ).bind fun d => (D.popAt ys d).bind fun k => (W.some? ys[k]?).bind fun u => (W.need (xs.length < sizeLine)).bind fun _ => W.pure (.nx ((ρ.set j (some (.lst (ys.eraseIdx k)))).set i (some (.lst (xs ++ [u]))))) := fun X G => by
  refine (ps_expr (pos := pos) (pe_bm (apos := p2) (cpos := p3) PySem.F.plainAttrs_list PySem.F.slot_list_append PySem.F.type_list_append mt_append (pe_var (pos := p1) (i := i) (by rw [G.N]; exact hN) (by rw [G.sc]; exact vis_of hv) hd hcd)
    (pa_cons (pe_bm (apos := q2) (cpos := q3) PySem.F.plainAttrs_list PySem.F.slot_list_pop PySem.F.type_list_pop mt_popAt (pe_var (pos := q1) (i := j) (by rw [G.N]; exact hN2) (by rw [G.sc]; exact vis_of hv2) hd2 hcd2) (pa_cons (he X G) pa_nil (hs2 _)) (hbase2 _) (hfew2 _) hline2 (hs2 _) (hplain2 _)) pa_nil (hs _)) (hbase _) (hfew _) hline (hs _) (hplain _)) (hsw _)).impW fun D σ H fc ⟨z0, H0, z, ρ, E, h⟩ => ?_
  obtain ⟨l, e1, k⟩ := getV_run h
  obtain ⟨xs, rfl, k⟩ := asLst_run k
  obtain ⟨m, e1', k⟩ := getV_run k
  obtain ⟨ys, rfl, k⟩ := asLst_run k
  have hm := List.contains_iff_mem.mp hi
  have hm' := List.contains_iff_mem.mp hj
  obtain ⟨a, vs, e2, hβ, q, r⟩ := own_lst E hm e1
  obtain ⟨b, us, e2', hβ', q', r'⟩ := own_lst E hm' e1'
  refine ⟨_, e2, .inl ⟨rfl, vs, .of q⟩, _, e2', .inl ⟨rfl, us, .of q'⟩, z0, H0, z, ρ, E, (f ρ).mono (fun d k v z1 H1 st1 fc1 r1 => ?_) k⟩
  cases d <;> try exact (show False from k).elim
  rename_i n
  obtain ⟨⟨hn0, hn1, hn2⟩, k⟩ := k
  obtain ⟨u, hu, k⟩ := some_run k
  obtain ⟨hz, k⟩ := k
  cases r1
  obtain ⟨w, hw, rw'⟩ := (r'.le st1.le).get hu
  have hl' : us.length = ys.length := r'.length
  refine ⟨b, us, n, n.toNat, w, rfl, rfl, st1.keep _ _ hβ' q' trivial, by omega, by omega, ?_, hw, ?_⟩
  · unfold seqIndex?
    have h1 : ¬ n < 0 := by omega
    have h2 : (decide (0 ≤ n) && decide (n < (us.length : Int))) = true := by simp; omega
    simp only [if_neg h1, h2, if_true]
  · have E2 := (E.step st1).chg hm' e1' e2' (o := .lst (us.eraseIdx n.toNat)) (d' := .lst (ys.eraseIdx n.toNat)) (.lst (r'.le st1.le).eraseIdx)
    have e3 : (ρ.set j (some (PW.D.lst (ys.eraseIdx n.toNat))))[i]? = some (some (.lst xs)) := by rw [List.getElem?_set_ne (fun q => hij q.symm)]; exact e1
    obtain ⟨a', vs', f2, gβ, p, s⟩ := own_lst E2 hm e3
    rw [e2] at f2
    cases f2
    refine ⟨a, vs', w, rfl, rfl, p, by rw [s.length]; exact hz, fun _ => ?_⟩
    exact k _ z1 _ st1.le (E2.chg hm e3 e2 (.lst (s.append (.cons rw' .nil))))
end
end PW

set_option Elab.async false
set_option linter.all false
set_option maxRecDepth 100000
set_option maxHeartbeats 1000000
namespace PW
open PySem PySem.Spec PyProof.Rows L2
/-! ### x.update(d) -/
def mergeT (kvs more : List (List Key × V)) : List (List Key × V) := more.foldl (fun acc kv => putK acc kv.1 kv.2) kvs
theorem KT_merge {H : Hp} : ∀ {more : List (List Key × V)} {ys : List (List Key × Addr × Value)} {kvs : List (List Key × V)} {xs : List (List Key × Addr × Value)}, KT H more ys → KT H kvs xs → KT H (mergeT kvs more) (storedAllH xs ys) := by
  intro more ys kvs xs r
  unfold KT at r
  induction r generalizing kvs xs with
  | nil => intro q; exact q
  | @cons p q ps qs h t ih =>
    intro rr
    obtain ⟨h1, h2, h3⟩ := h
    show KT H (mergeT (putK kvs p.1 p.2) ps) (storedAllH (storedH xs q.1 q.2.1 q.2.2) qs)
    refine ih ?_
    rw [← h1]
    exact rr.put p.1 h2 h3
theorem length_mergeT : ∀ (more kvs : List (List Key × V)), (mergeT kvs more).length ≤ kvs.length + more.length
  | [], kvs => by simp [mergeT]
  | p :: r, kvs => by
    have h1 := length_mergeT r (putK kvs p.1 p.2)
    have h2 := length_putK kvs p.1 p.2
    show (mergeT (putK kvs p.1 p.2) r).length ≤ _
    rw [List.length_cons]
    omega
def rUpd : V → List V → Hp → VK → Prop := fun x vs H Q => ∃ a b, x = .ref a ∧ vs = [.ref b] ∧ a ≠ b ∧
  ((∃ kvs more, H a = some (.dK kvs) ∧ Rd H b (.dK more) ∧ kvs.length + more.length ≤ sizeLine ∧ Q .non (upd H a (.dK (mergeK kvs more)))) ∨
    ∃ kvs more, H a = some (.dT kvs) ∧ Rd H b (.dT more) ∧ kvs.length + more.length ≤ sizeLine ∧ (kvs ≠ [] ∨ more.length ≤ 1) ∧ Q .non (upd H a (.dT (mergeT kvs more))))
theorem mt_update {X : Cx} (hu : X.A.units + 1 < cLine) : MtR X "dict.update" rUpd := by
  intro pins s σ H x vs v us Q I rx rv h
  obtain ⟨a, b, rfl, rfl, hab, ⟨kvs, more, ea, eb, hl, q⟩ | ⟨kvs, more, ea, eb, hl, hap, q⟩⟩ := h
  · cases rx
    obtain ⟨u, rfl, ru⟩ := rv.one
    cases ru
    obtain ⟨z, hd, ws, rel, dd⟩ := dk_of I.hok ea
    obtain ⟨z2, hd2, ws2, rel2, dd2⟩ := dk_rd I.hok eb
    refine call_meetsIn PySem.F.slot_dict_update dd.typeIs PySem.F.entry_dict_update (PySem.F.args_dict_update_2 _ _) (meets_dict_update (mixKind X.prog X.w) a b hab hd2) ⟨ws, ws2, dd, dd2, by rw [← rel.length, ← rel2.length]; exact hl, fun h' dd' _ hs => ?_⟩
    have he : ∃ q, h'.get? a = some q := let ⟨q, _, _, hq, _⟩ := dd'; ⟨q, hq⟩
    exact ⟨.non, _, d_write I (by rw [ea]; exact True.intro) hs he (dk_new (Nat.le_trans (length_mergeK _ _) hl) hd (KV.merge rel2 rel) dd'), rfl, q⟩
  · cases rx
    obtain ⟨u, rfl, ru⟩ := rv.one
    cases ru
    obtain ⟨z, hd, ws, rel, dd⟩ := dt_of I.hok ea
    obtain ⟨z2, hd2, ws2, rel2, dd2⟩ := dt_rd I.hok eb
    have l1 : kvs.length = ws.length := Paired.length rel
    have l2 : more.length = ws2.length := Paired.length rel2
    refine call_update_dictH (tupleKind_room_in1 hu) hab hd2 dd dd2 ?_ (by rw [← l1, ← l2]; exact hl) fun h' dd' _ hs => ?_
    · rcases hap with h | h
      · refine .inl fun e => h ?_
        rw [e] at l1
        exact List.length_eq_zero_iff.mp l1
      · refine .inr ⟨fun y hy => ?_, ?_⟩
        · obtain ⟨_, _, _, _, _, _, _, his, _⟩ := dd2
          obtain ⟨o, _, _, h1, h2, _⟩ := his y hy
          exact ⟨o, h1, h2⟩
        · match ws2, l2 with
          | [], _ => exact List.nodup_nil
          | [y], _ => simp
          | _ :: _ :: _, l2 => simp at l2; omega
    · obtain ⟨q', es, ep, hq, h2, h3, h4, _, h5⟩ := dd'
      refine ⟨.non, _, d_write (ob := .dT (mergeT kvs more)) I (by rw [ea]; exact True.intro) hs ⟨q', hq⟩ ⟨Nat.le_trans (length_mergeT _ _) hl, hd, _, (KT_merge rel2 rel).keeps fun c ys ec => ?_, q', es, ep, hq, h2, h3, h4, h5⟩, rfl, q⟩
      rw [upd_ne (ne_of ec ea (fun z => nomatch z))]
      exact ec
/-- behind d.update(m) -/
def updD {κ : Type} [DecidableEq κ] (kvs more : List (κ × D)) : List (κ × D) := more.foldl (fun acc kv => putD acc kv.1 kv.2) kvs
theorem RpK.merge {K : PySem.W.Frag} {mg : Str → Option Value} {z : Z} : ∀ {vs : List (Key × V)} {ds : List (Key × D)} {us : List (Key × V)} {es : List (Key × D)}, RpK K mg z vs ds → RpK K mg z us es → RpK K mg z (mergeK us vs) (updD es ds)
  | _, _, _, _, .nil, r => r
  | _, _, us, es, .cons (k := k) (v := v) (d := d) h t, r => RpK.merge (us := putK us k v) (es := putD es k d) t (RpK.put r h)
theorem RpT.merge {K : PySem.W.Frag} {mg : Str → Option Value} {z : Z} : ∀ {vs : List (List Key × V)} {ds : List (List Key × D)} {us : List (List Key × V)} {es : List (List Key × D)}, RpT K mg z vs ds → RpT K mg z us es → RpT K mg z (mergeT us vs) (updD es ds)
  | _, _, _, _, .nil, r => r
  | _, _, us, es, .cons (k := k) (v := v) (d := d) h t, r => RpT.merge (us := putK us k v) (es := putD es k d) t (RpT.put r h)
def D.update : D → D → W D
  | .dK kvs, .dK more => (W.need (kvs.length + more.length ≤ sizeLine)).bind fun _ => W.pure (.dK (updD kvs more))
  | .dT kvs, .dT more => (W.need (kvs.length + more.length ≤ sizeLine ∧ (kvs ≠ [] ∨ more.length ≤ 1))).bind fun _ => W.pure (.dT (updD kvs more))
  | _, _ => W.fail
section
variable {M : Mo} {S : Fix} {e : Expr} {f : Env → W D} {pos : Pos}
theorem s_update (i : Nat) {x : Str} {p1 p2 p3 : Pos} (he : EvV M S e f) (hN : S.N[i]? = some x := by kernel_rfl) (hv : visC S.sc x = true := by kernel_rfl) (hi : S.mt.contains i = true := by kernel_rfl)
    (hd : (x == ("__debug__" : Str)) = false := by kernel_rfl) (hcd : (x == ("__classdict__" : Str)) = false := by kernel_rfl)
    (hbase : ∀ env, attributeBase (.Name x p1) "update" env (eval (.Name x p1) env) = eval (.Name x p1) env := by intro _; kernel_rfl)
    (hfew : ∀ env, ((backTo p3 (starEach [e] env)).all (fun x => !x.1) && (backToKw p3 (keywordEach [] env)).all (fun x => x.1.isSome) && decide ([e].length + ([] : List Keyword).length + (if ([] : List Keyword).isEmpty then 0 else 1) < 30)) = true := by intro _; kernel_rfl)
    (hline : (p2.endLine == p3.line) = true := by kernel_rfl) (hs : ∀ env, starEach [e] env = (false, eval e env) :: starEach [] env := by intro _; kernel_rfl) (hplain : ∀ env, (backTo p3 (starEach [] env)).any (·.1) = false := by intro _; kernel_rfl)
    (hsw : ∀ env, swapsWith (.Call (.Attribute (.Name x p1) "update" p2) [e] [] p3) none pos.line env = pure false := by intro _; kernel_rfl) :
    EvS M S (.Expr (.Call (.Attribute (.Name x p1) "update" p2) [e] [] p3) pos) fun ρ => (getV ρ i).bind fun c => c.isD.bind fun _ => (f ρ).bind fun d => (c.update d).bind fun c' => W.pure (.nx (ρ.set i (some c'))) := fun X G => by
  refine (ps_expr (pos := pos) (pe_bm (apos := p2) (cpos := p3) PySem.F.plainAttrs_dict PySem.F.slot_dict_update PySem.F.type_dict_update (mt_update (by have := G.room.un; omega)) (pe_var (pos := p1) (i := i) (by rw [G.N]; exact hN) (by rw [G.sc]; exact vis_of hv) hd hcd) (pa_cons (he X G) pa_nil (hs _)) (hbase _) (hfew _) hline (hs _) (hplain _)) (hsw _)).impW fun D σ H fc ⟨z0, H0, z, ρ, E, h⟩ => ?_
  obtain ⟨c, e1, k⟩ := getV_run h
  have hm := List.contains_iff_mem.mp hi
  obtain ⟨v, e2, a, o, rfl, f0, h0, hβ, q, cc⟩ := E.own i c hm e1
  cases cc with
  | lst r => exact (show False from k).elim
  | dK r =>
    refine ⟨_, e2, .inr (.inr (.inl ⟨rfl, .inl ⟨_, q⟩⟩)), z0, H0, z, ρ, E, (f ρ).mono (fun d k v z1 H1 st1 fc1 r1 => ?_) k⟩
    cases d <;> try exact (show False from k).elim
    obtain ⟨hz, k⟩ := k
    cases r1 with
    | dK hb rb =>
    rename_i more' b more
    refine ⟨a, b, rfl, rfl, fun x => ?_, .inl ⟨_, _, st1.keep _ _ hβ q trivial, .inl (st1.ok.sub _ _ hb), by rw [r.length, rb.length]; exact hz, fun _ => ?_⟩⟩
    · have := st1.new a _ f0 q trivial
      rw [x, hb] at this
      cases this
    · exact k _ z1 _ st1.le ((E.step st1).chg hm e1 e2 (.dK (rb.merge (r.le st1.le))))
  | dT r =>
    refine ⟨_, e2, .inr (.inr (.inl ⟨rfl, .inr ⟨_, q⟩⟩)), z0, H0, z, ρ, E, (f ρ).mono (fun d k v z1 H1 st1 fc1 r1 => ?_) k⟩
    cases d <;> try exact (show False from k).elim
    obtain ⟨⟨hz, hap⟩, k⟩ := k
    cases r1 with
    | dT hb rb =>
    rename_i more' b more
    refine ⟨a, b, rfl, rfl, fun x => ?_, .inr ⟨_, _, st1.keep _ _ hβ q trivial, .inl (st1.ok.sub _ _ hb), by rw [r.length, rb.length]; exact hz, ?_, fun _ => ?_⟩⟩
    · have := st1.new a _ f0 q trivial
      rw [x, hb] at this
      cases this
    · rcases hap with h | h
      · refine .inl fun e => h ?_
        have := r.length
        rw [e] at this
        exact List.length_eq_zero_iff.mp this.symm
      · exact .inr (by rw [rb.length]; exact h)
    · exact k _ z1 _ st1.le ((E.step st1).chg hm e1 e2 (.dT (rb.merge (r.le st1.le))))
end
end PW

set_option Elab.async false
set_option linter.all false
set_option maxRecDepth 100000
set_option maxHeartbeats 2000000
namespace PW
open PySem PySem.Spec PyProof.Rows L2
/-! ### the call of the law from the very caller: nothing else runs there (what repr asks) -/
section
variable {P : Program} {w : World} {K : PySem.W.Frag} {mg mb : Str → Option Value} {fa a : Addr} {cs : List (Addr × Addr)} {s : Shared} {vs : List Value} {ns : List Int}
/-- the tables, and the script where K does not hold it -/
def startH (K : PySem.W.Frag) (cs : List (Addr × Addr)) (a : Addr) (vs : List Value) (ns : List Int) : Hp := by
  classical
  exact fun b => if (∃ p ∈ cs, p.2 = b) then some (.tbl #[]) else if b = a ∧ K.lookup a = none then some (.frz { cls := .type "list", data := .seq vs.toArray } (.lst (ns.map V.int))) else none
theorem startH_cases (b : Addr) : ((∃ p ∈ cs, p.2 = b) ∧ startH K cs a vs ns b = some (.tbl #[])) ∨ ((¬ ∃ p ∈ cs, p.2 = b) ∧ b = a ∧ K.lookup a = none ∧ startH K cs a vs ns b = some (.frz { cls := .type "list", data := .seq vs.toArray } (.lst (ns.map V.int)))) ∨ ((¬ ∃ p ∈ cs, p.2 = b) ∧ ¬ (b = a ∧ K.lookup a = none) ∧ startH K cs a vs ns b = none) := by
  classical
  by_cases h1 : ∃ p ∈ cs, p.2 = b
  · exact .inl ⟨h1, by unfold startH; exact if_pos h1⟩
  · by_cases h2 : b = a ∧ K.lookup a = none
    · exact .inr (.inl ⟨h1, h2.1, h2.2, by unfold startH; exact (if_neg h1).trans (if_pos h2)⟩)
    · exact .inr (.inr ⟨h1, h2, by unfold startH; exact (if_neg h1).trans (if_neg h2)⟩)
theorem law_callG (KX : K.In s.heap) (hns : s.heap.Ns mainGlobals mg) (hb : s.heap.Ns builtinsNs mb) (hbb : ∀ x : Str, x ≠ "__name__" → mb x = bootBuiltins x) (hlim : s.heap.NoLimit) (hg : s.gens = #[])
    (hT : ∀ p ∈ cs, s.heap.get? p.2 = some { cls := .none, data := .fields #[] }) (nT : ∀ p ∈ cs, K.lookup p.2 = none) (C : ∀ p ∈ cs, PySem.W.CodeHd s.heap p.1 p.2)
    (hbm : ∃ (bm : Addr) (ob : Obj), mg "__builtins__" = some (.ref bm) ∧ bm ≠ builtinsNs ∧ s.heap.get? bm = some ob ∧ ob.cls = .type "module" ∧ ob.dict = some builtinsNs ∧ ob.data = .plain)
    (ha : s.heap.get? a = some { cls := .type "list", data := .seq vs.toArray }) (hi : IntsAre vs ns) (hl : ns.length ≤ sizeLine)
    (run : ∀ (base : Heap) (H : Hp), K.In base → base.Ns mainGlobals mg → (∀ p ∈ cs, LamX.TabB base mg p.1 p.2) → (∀ p ∈ cs, H p.2 = some (.tbl #[])) → SqL K H a (ns.map V.int) → Env0 P w K mg base callerA [] s H →
      codeAny (model P w) callerA (.call (.ref fa) ⟨[.ref a], []⟩) (CR CX0 [] P w H s (fun v _ => v = .bl true) (fun _ _ _ => False)) s) :
    codeAny (model P w) callerA (.call (.ref fa) ⟨[.ref a], []⟩) (fun r s' => r = .ok (.ret (.bool true)) ∧ OldK s.heap s'.heap ∧ s'.os = s.os ∧ AllBare s'.gens) s := by
  have lenV := hi.length
  have cases := @startH_cases K a cs vs ns
  generalize hH : startH K cs a vs ns = H at cases
  -- what is neither a list nor an empty record is not tracked
  have free : ∀ {b : Addr} {o : Obj}, s.heap.get? b = some o → (∀ xs n, o.data ≠ .seq xs n) → o.data ≠ .fields #[] → H b = none := fun {b o} e h1 h2 => by
    rcases cases b with ⟨⟨p, hp, rfl⟩, _⟩ | ⟨_, rfl, _, _⟩ | ⟨_, _, q⟩
    · rw [hT p hp] at e; cases e; exact (h2 rfl).elim
    · rw [ha] at e; cases e; exact (h1 _ _ rfl).elim
    · exact q
  have keepB : ∀ {b : Addr} {o : Obj}, s.heap.get? b = some o → (∀ xs n, o.data ≠ .seq xs n) → o.data ≠ .fields #[] → (hidT s.heap H).get? b = some o := fun e h1 h2 => hidT_get e (free e h1 h2)
  have dict : ∀ {b : Addr} {m : Str → Option Value}, s.heap.Ns b m → (hidT s.heap H).Ns b m := fun {b m} ⟨o, es, ep, e, d, r⟩ => ⟨o, es, ep, keepB e (fun _ _ z => by rw [d] at z; cases z) (fun z => by rw [d] at z; cases z), d, r⟩
  have kin : K.In (hidT s.heap H) := fun b o e => hidT_get (KX b o e) (by
    rcases cases b with ⟨⟨p, hp, rfl⟩, _⟩ | ⟨_, rfl, q, _⟩ | ⟨_, _, q⟩
    · rw [nT p hp] at e; cases e
    · rw [q] at e; cases e
    · exact q)
  have md : L2.Mod K mg (hidT s.heap H) := ⟨kin, dict hns, ⟨mb, dict hb, hbb⟩, let ⟨mc, h1, h2⟩ := hlim; ⟨mc, dict h1, h2⟩⟩
  obtain ⟨bm, ob, b1, b2, b3, b4, b5, b6⟩ := hbm
  obtain ⟨og, esg, epg, eg, dg, rg⟩ := id hns
  have tabs : ∀ p ∈ cs, LamX.TabB (hidT s.heap H) mg p.1 p.2 := fun p hp => by
    obtain ⟨o, us, file, tf, flags, tg, inF, text, tt, e1, r1, r2, r3, r⟩ := C p hp
    refine ⟨⟨o, us, file, tf, flags, tg, inF, text, tt, keepB e1 (fun _ _ z => by rw [r2] at z; cases z) (fun z => by rw [r2] at z; cases z; simp at r3), r1, r2, r3, r⟩, ⟨bm, ob, b1, b2, fun q => ?_, fun q => ?_, keepB b3 (fun _ _ z => by rw [b6] at z; cases z) (fun z => by rw [b6] at z; cases z), b4, b5, b6⟩, fun q => ?_⟩
    · rw [q, eg] at b3; cases b3; rw [dg] at b6; cases b6
    · rw [q, hT p hp] at b3; cases b3; cases b6
    · rw [q, hT p hp] at eg; cases eg; cases dg
  have tracked : HOk P w H s.heap := fun b u z => by
    rcases cases b with ⟨⟨p, hp, rfl⟩, q⟩ | ⟨_, rfl, _, q⟩ | ⟨_, _, q⟩
    · rw [q] at z; cases z; exact hT p hp
    · rw [q] at z; cases z
      exact ⟨ha, by rw [List.length_map]; exact hl, vs, _, vals_ints hi, ha⟩
    · rw [q] at z; cases z
  have e0 : Env0 P w K mg (hidT s.heap H) callerA [] s H := ⟨rfl, md, fun b o e => of_hidT e, Nat.le_of_eq (hidT_size _ _), trivial, fun b hb => absurd (show b ∈ ([] : List Addr) from hb) (by simp), tracked, .of_eq hg⟩
  have tblH : ∀ p ∈ cs, H p.2 = some (.tbl #[]) := fun p hp => by
    rcases cases p.2 with ⟨_, q⟩ | ⟨n, _⟩ | ⟨n, _⟩
    · exact q
    · exact absurd ⟨p, hp, rfl⟩ n
    · exact absurd ⟨p, hp, rfl⟩ n
  have script : SqL K H a (ns.map V.int) := by
    rcases cases a with ⟨⟨p, hp, e⟩, q⟩ | ⟨_, _, _, q⟩ | ⟨_, n, q⟩
    · rw [← e, hT p hp] at ha; cases ha
    · exact .inl (.inr ⟨_, q⟩)
    · cases hk : K.lookup a with
      | none => exact absurd ⟨rfl, hk⟩ n
      | some o =>
        have e := KX a o hk
        rw [ha] at e
        cases e
        exact .inr ⟨_, vs.toArray, _, hk, rfl, rfl, rfl, by rw [List.size_toArray, lenV]; exact hl, by simpa using vals_ints hi⟩
  refine codeAny_mono (run _ H kin (dict hns) tabs tblH script e0) fun r s' h => ?_
  obtain ⟨u, rfl⟩ : ∃ u, r = .ok (.ret u) := by
    cases r with
    | error e => exact False.elim h
    | ok fl => cases fl <;> first | exact ⟨_, rfl⟩ | exact False.elim h
  obtain ⟨v, H', os, bare, un, ok', r', q⟩ := h
  have q : v = .bl true := q
  subst q
  obtain rfl : u = Value.bool true := r'
  have grown : ∀ p ∈ cs, ∃ more : Array Value, s'.heap.get? p.2 = some { cls := .none, data := .fields more } := fun p hp => by
    obtain ⟨more, z⟩ := un.tbls p.2 #[] (tblH p hp)
    exact ⟨_, ok' p.2 _ z⟩
  have old : ∀ b o, (¬ ∃ p ∈ cs, p.2 = b) → s.heap.get? b = some o → s'.heap.get? b = some o := fun b o nb e => by
    rcases cases b with ⟨y, _⟩ | ⟨_, rfl, _, q⟩ | ⟨_, _, q⟩
    · exact absurd y nb
    · have z := un.frzs _ _ _ q
      obtain ⟨e2, _⟩ := ok' _ _ z
      rw [ha] at e; cases e; exact e2
    · exact un.keep b o e q (fun z => absurd (show b ∈ ([] : List Addr) from z) (by simp)) (by simp)
  refine ⟨rfl, ⟨fun b o e => ?_, fun b o e => ?_⟩, os, bare⟩
  · by_cases hb : ∃ p ∈ cs, p.2 = b
    · obtain ⟨p, hp, rfl⟩ := hb
      obtain ⟨more, hm⟩ := grown p hp
      rw [hT p hp] at e
      cases e
      exact .inr (.inl ⟨((C p hp).tab (hT p hp)).isCodeTable, rfl, #[], more, rfl, by rw [Array.empty_append]; exact hm⟩)
    · exact .inl (old b o hb e)
  · by_cases hb : ∃ p ∈ cs, p.2 = b
    · obtain ⟨p, hp, rfl⟩ := hb
      obtain ⟨more, hm⟩ := grown p hp
      exact ⟨_, hm⟩
    · exact ⟨o, old b o hb e⟩
end
end PW

set_option Elab.async false
set_option linter.all false
set_option maxRecDepth 100000
set_option maxHeartbeats 1000000
namespace PW
open PySem PySem.Spec PyProof.Rows L2
/-! ### repr(e), in the law's own def -/
def D.repr : List D → W D
  | [.tup ds] => (W.some? (D.tup ds).py).bind fun p => (W.need (p.showable = true ∧ p.hasDict = false ∧ p.depth ≤ 100 ∧ p.shown.length ≤ sizeLine)).bind fun _ => W.pure (.str p.shown)
  | _ => W.fail
theorem c_repr {M : Mo} {S : Fix} (hg : M.gd = true := by rfl) : CallE M S (.builtin "repr") D.repr := fun X G => by
  refine ⟨fun vs H Q => ∃ a p, vs = [.ref a] ∧ Dp X.K H (.ref a) p ∧ p.showable = true ∧ p.hasDict = false ∧ p.depth ≤ 100 ∧ p.shown.length ≤ sizeLine ∧ Q (.str p.shown) H, fun pins s σ H vs us Q I r ⟨a, p, e, dp, h1, h2, h3, h4, q⟩ => ?_, fun {z H vs ds Q} fc ok rs h => ?_⟩
  · subst e
    rw [Vals.ref1 r]
    obtain ⟨as, rd⟩ := Dp.reads I p (.ref a) (.ref a) dp rfl
    refine repr_of_reads' rd h1 (fun e => by rw [h2] at e; cases e) (G.gd hg) (by have := G.room.un; omega) (fun _ _ z => z) (fun h' u tk hk => ?_) h4
    exact ⟨.str p.shown, H, I.kept (t' := tk) hk, ⟨u, rfl⟩, q⟩
  · unfold D.repr at h
    split at h
    · rename_i ds'
      obtain ⟨v, rfl, r⟩ := rs.one
      obtain ⟨p, e, h⟩ := some_run h
      obtain ⟨⟨h1, h2, h3, h4⟩, k⟩ := h
      have dp := r.dp ok e
      obtain ⟨a, vs, rfl, _, _⟩ := r.tup ok
      exact ⟨a, p, rfl, dp, h1, h2, h3, h4, fun _ => k _ z H (Step.refl ok) fc (.str _)⟩
    · exact (show False from h).elim
/-! ### the law's def, called from the very caller -/
theorem law_run {M : Mo} {P : Program} {w : World} {K : PySem.W.Frag} {mg : Str → Option Value} {base : Heap} {tb : List (Addr × Str)} {x qual : Str} {params : Arguments} {body : List Stmt} {scope : Scope} {f a : Addr} {fd : FuncData} {N ps : List Str} {mt : List Nat} {b : Env → W Out} {s : Shared} {H : Hp} {Q : VK} {E : XK}
    (F : FunD K x qual params body scope [] [] f fd) (m : Mod0 M P w K mg base tb) (he : M.eps = eps0) (hb : EvSs M ⟨N, scope, fun _ => true, mt⟩ body b) (hS : C8.scC N ps scope = true) (hmt : (mt.all fun i => decide (ps.length ≤ i)) = true) (hN : ps.length ≤ N.length) (hlam : M.lam = true → LamAt K mg base fd.code (qual ++ ".<locals>.") tb)
    (hr : Room (M.lv + 1) callerA) (hbind : BindsTo s fd ⟨[.ref a], []⟩ (ps.zip [.ref a])) (hps : ps.length = 1) (e0 : Env0 P w K mg base callerA [] s H) (hsp : spW K mg tb (fun _ => defW ps.length N.length b) [.ref a] H Q E) :
    codeAny (model P w) callerA (.call (.ref f) ⟨[.ref a], []⟩) (CR CX0 [] P w H s Q E) s := by
  have S := C8.fnScope_by hS
  obtain ⟨oc, od, dV, kV, doc, pm, an, cdv, ct, osl, rfl, lk, hcd, _, _⟩ := F.ex
  refine LamX.run_ofS (CX := CX0) (vs := [.ref a]) lk hcd S hr e0 hbind (.cons rfl .nil) (by rw [hps]; rfl) fun hr' => ?_
  obtain ⟨_, z, ds, ht, ok, r, h, _⟩ := hsp
  obtain ⟨hl, h⟩ := h
  obtain ⟨t, h1, h2⟩ := body_run (X := (cxOf CX0 P w K mg base N qual scope f cdv callerA [] s H E).nox) (good0 (mt := mt) m he S.nd hr' hlam fun _ => rfl) hb ok ht r (by rw [hl]; exact hN) (fun i hi => by rw [hl]; exact of_decide_eq_true (List.all_eq_true.mp hmt i hi)) h
  exact ⟨t, h1.nox, h2⟩
end PW

set_option Elab.async false
set_option linter.all false
set_option maxRecDepth 100000
set_option maxHeartbeats 2000000
namespace PW
open PySem PySem.Spec PyProof.Rows L2 He
/-! ### the head: own exception classes -/
def oexB (K : PySem.W.Frag) (C : Addr) : Bool := (match K.lookup C with
  | some ⟨.type "type", _, .cls cd, sl⟩ => (match cd.mro, sl.toList with
    | .ref C' :: bm, [_, _, _, _, some (.builtin n), _] => C' == C && n == "ValueError.__new__" && !cd.hasDel && cd.hasDict && PySem.HandSPX.refsVE bm
    | _, _ => false)
  | _ => false) && (eqO (PySem.W.findIn K (.ref C) "__setattr__") (some (some (.builtin "object.__setattr__"))) && (decide (PySem.W.subIn K (.ref C) (.type "BaseException") = some true) && (decide (PySem.W.typeIn K (.ref C) = some (.type "type")) && PySem.W.keepIn K (.ref C))))
theorem oexB_ok {K : PySem.W.Frag} {C : Addr} (h : oexB K C = true) : OexC K C := by
  obtain ⟨q, h⟩ := ba h
  obtain ⟨h1, h⟩ := ba h
  obtain ⟨h2, h⟩ := ba h
  obtain ⟨h3, h4⟩ := ba h
  refine ⟨?_, eqO_ok h1, of_decide_eq_true h2, of_decide_eq_true h3, h4⟩
  split at q
  · rename_i dd cd sl ho
    split at q
    · rename_i C' bm k0 k1 k2 k3 n k5 hm hs
      simp only [Bool.and_eq_true, beq_iff_eq, Bool.not_eq_true'] at q
      obtain ⟨⟨⟨⟨rfl, rfl⟩, hdel⟩, hdct⟩, ht⟩ := q
      obtain ⟨nm, bs, mro, ns, qn, hd, sn, sub, ab, col, del⟩ := cd
      dsimp only at hm hdel hdct
      subst hm hdel hdct
      have hsl : sl = #[k0, k1, k2, k3, some (.builtin "ValueError.__new__"), k5] := by
        obtain ⟨l⟩ := sl
        simp only at hs
        rw [hs]
      subst hsl
      exact ⟨nm, qn, ns, bs, bm, sn, sub, ab, col, dd, k0, k1, k2, k3, k5, ho, ht⟩
    · cases q
  · cases q
structure IniD where
  c : Str
  name : Str
  qual : Str
  params : Arguments
  body : List Stmt
  scope : Scope
  fs : List Str
abbrev IniV : Type := Option (Str × Str × Arguments × FuncBody × Scope × Addr × Addr)
def fI (K : PySem.W.Frag) (c : Str) : Addr := ma K (ga K c) "__init__"
def iniW (K : PySem.W.Frag) (d : IniD) : IniV := match K.lookup (fI K d.c) with
  | some ⟨_, _, .func fd, _⟩ => some (fd.name, fd.qualname, fd.params, fd.body, fd.scope, fd.globals, fd.builtins)
  | _ => none
def IniD.val (d : IniD) : IniV := some (d.name, d.qual, d.params, .stmts d.body, d.scope, mainGlobals, builtinsNs)
def isNon : Value → Bool
  | .none => true
  | _ => false
theorem isNon_ok {v : Value} (h : isNon v = true) : v = .none := by cases v <;> first | rfl | cases h
def cellB (K : PySem.W.Frag) (C : Addr) : List (Str × Addr) → Bool
  | [(x, cc)] => x == "__class__" && (match K.lookup cc with
    | some ⟨_, _, .cell (some v), _⟩ => v == .ref C
    | _ => false)
  | _ => false
theorem cellB_ok {K : PySem.W.Frag} {C : Addr} {l : List (Str × Addr)} (h : cellB K C l = true) : ∃ cc, l = [(("__class__" : Str), cc)] ∧ ∃ cl cld csl, K.lookup cc = some ⟨cl, cld, .cell (some (.ref C)), csl⟩ := by
  unfold cellB at h
  split at h
  · rename_i x cc
    obtain ⟨h1, h2⟩ := ba h
    split at h2
    · rename_i a b v c e
      have h1 := eq_of_beq h1
      have h2 := eq_of_beq h2
      subst h1 h2
      exact ⟨cc, rfl, _, _, _, e⟩
    · cases h2
  · cases h
def cdB (file : Str) (K : PySem.W.Frag) (q : Str) (v : Value) : Bool := PySem.W.codeIn K v q && (match v with
  | .ref c => (match K.lookup c with
    | some ⟨_, _, .fields vs, _⟩ => (match (vs[2]? : Option Value) with
      | some (.str f _) => (file == f)
      | _ => false)
    | _ => false)
  | _ => false)
theorem cdB_ok {file : Str} {K : PySem.W.Frag} {q : Str} {v : Value} (h : cdB file K q v = true) : ∃ c, v = .ref c ∧ PySem.W.codeIn K (.ref c) q = true ∧ ∃ ccl cdd vs ccs f tf, K.lookup c = some ⟨ccl, cdd, .fields vs, ccs⟩ ∧ vs[2]? = some (.str f tf) ∧ (file == f) = true := by
  obtain ⟨h1, h2⟩ := ba h
  split at h2
  · rename_i c
    split at h2
    · rename_i a b vs d e
      split at h2
      · rename_i f tf e2
        exact ⟨c, rfl, h1, _, _, _, _, _, _, e, e2, h2⟩
      · cases h2
    · cases h2
  · cases h2
def IniD.ok (file : Str) (K : PySem.W.Frag) (d : IniD) : Bool := oexB K (ga K d.c) && (eqO (PySem.W.findIn K (.ref (ga K d.c)) "__init__") (some (some (.ref (fI K d.c)))) && (decide (PySem.W.typeIn K (.ref (fI K d.c)) = some (.type "function")) &&
  ((match K.lookup (fI K d.c) with
    | some ⟨_, _, .func fd, _⟩ => isNon fd.defaults && (isNon fd.kwdefaults && (fd.annotations.isNone && (cellB K (ga K d.c) fd.closure && cdB file K d.qual fd.code)))
    | _ => false) &&
  (eqO (PySem.W.nsIn K PySem.cStatics "thirdparty.any") (some none) && (eqO (PySem.W.ks_superIn K (ga K d.c) (ga K d.c) "__init__") (some (some (.builtin "ValueError.__init__"))) && (decide (PySem.W.subIn K (.ref (ga K d.c)) (.type "ValueError") = some true) && (decide (PySem.W.mroIn K (ga K d.c) (.ref (ga K d.c)) = some true) &&
  (PySem.W.excInitIn K (ga K d.c) [.type "ValueError", .type "Exception", .type "BaseException", .type "object"] "ValueError.__new__" && d.fs.all fun f => eqO (PySem.W.findIn K (.ref (ga K d.c)) f) (some none)))))))))
theorem ini_ok {P : Program} {K : PySem.W.Frag} {d : IniD} (e : iniW K d = d.val) (h : d.ok P.main.file K = true) : PySem.W.findIn K (.ref (ga K d.c)) "__init__" = some (some (.ref (fI K d.c))) ∧ PySem.W.typeIn K (.ref (fI K d.c)) = some (.type "function") ∧
    ∃ I : InitC P K (ga K d.c), I.fI = fI K d.c ∧ I.name = d.name ∧ I.qual = d.qual ∧ I.params = d.params ∧ I.scope = d.scope ∧ InitOk P K (ga K d.c) I d.body d.fs := by
  obtain ⟨h1, h⟩ := ba h
  obtain ⟨h2, h⟩ := ba h
  obtain ⟨h3, h⟩ := ba h
  obtain ⟨h4, h⟩ := ba h
  obtain ⟨h5, h⟩ := ba h
  obtain ⟨h6, h⟩ := ba h
  obtain ⟨h7, h⟩ := ba h
  obtain ⟨h8, h⟩ := ba h
  obtain ⟨h9, h10⟩ := ba h
  refine ⟨eqO_ok h2, of_decide_eq_true h3, ?_⟩
  unfold iniW at e
  cases q : K.lookup (fI K d.c) with
  | none => rw [q] at h4; cases h4
  | some o =>
    obtain ⟨oc, od, dt, osl⟩ := o
    rw [q] at h4 e
    cases dt with
    | func fd =>
      obtain ⟨n1, n2, n3, n4, n5, n6, n7, n8, n9, n10, n11, n12, n13, n14, n15⟩ := fd
      have e2 : (some (n1, n2, n3, n4, n5, n6, n15) : IniV) = some (d.name, d.qual, d.params, .stmts d.body, d.scope, mainGlobals, builtinsNs) := e
      simp only [Option.some.injEq, Prod.mk.injEq] at e2
      obtain ⟨g1, g2, g3, g4, g5, g6, g7⟩ := e2
      subst g1 g2 g3 g4 g5 g6 g7
      obtain ⟨k1, h4⟩ := ba h4
      obtain ⟨k2, h4⟩ := ba h4
      obtain ⟨k3, h4⟩ := ba h4
      obtain ⟨k4, k5⟩ := ba h4
      obtain rfl := isNon_ok k1
      obtain rfl := isNon_ok k2
      obtain rfl : n12 = none := by cases n12 with
        | none => rfl
        | some _ => cases k3
      obtain ⟨cc, rfl, hc⟩ := cellB_ok k4
      obtain ⟨c, rfl, hc1, hc2⟩ := cdB_ok k5
      exact ⟨⟨fI K d.c, d.name, d.qual, d.params, d.scope, c, cc⟩, rfl, rfl, rfl, rfl, rfl, ⟨oexB_ok h1, eqO_ok h2, of_decide_eq_true h3, ⟨_, _, _, _, _, _, q⟩, hc1, hc2, hc, eqO_ok h5, eqO_ok h6, of_decide_eq_true h7, of_decide_eq_true h8, h9, fun f hf => eqO_ok (List.all_eq_true.mp h10 f hf)⟩⟩
    | _ => cases h4
/-! ### the hook: with the classes' __init__ -/
structure SaysY (fa : List Fa) (fn : List DefD) (tf : List Defn) (ex : PySem.W.Frag → Bool) (ini : List IniD) (w : World) (h : Heap) (K : PySem.W.Frag) : Prop where
  x : SaysX fa fn [] tf ex w h K
  ini : ini.map (iniW K) = ini.map IniD.val
abbrev AlY : Type := AlX × List IniV
def asY (g : Addr → Option Obj) (n : Nat) : List Addr := PySem.cStatics :: asD g n
def obsY (n : Nat) (fa : List Fa) (fn : List DefD) (tf : List Defn) (ex : PySem.W.Frag → Bool) (ini : List IniD) (g : Addr → Option Obj) : AlY :=
  ((obsT fa fn [] (frT g (asY g n)), ex (frT g (asY g n)) && tabsB g tf (frT g (asY g n))), ini.map (iniW (frT g (asY g n))))
theorem saysY_of {fa : List Fa} {fn : List DefD} {tf : List Defn} {ex : PySem.W.Frag → Bool} {ini : List IniD} {w : World} {h : Heap} {as : List Addr}
    (e1 : obsT fa fn [] (frT h.get? as) = valT fn [] w) (e2 : (ex (frT h.get? as) && tabsB h.get? tf (frT h.get? as)) = true) (e3 : ini.map (iniW (frT h.get? as)) = ini.map IniD.val) : SaysY fa fn tf ex ini w h (frT h.get? as) := by
  obtain ⟨h1, h2⟩ := ba e2
  have key : ∀ p ∈ tf, PySem.W.codeHdIn (frT h.get? as) (cT (frT h.get? as) p).1 (cT (frT h.get? as) p).2 = true ∧ ∃ o, h.get? (cT (frT h.get? as) p).2 = some o ∧ emptyTab o = true := fun p hp => by
    obtain ⟨h3, h4⟩ := ba (List.all_eq_true.mp h2 p hp)
    cases q : h.get? (cT (frT h.get? as) p).2 with
    | none => rw [q] at h4; cases h4
    | some o => rw [q] at h4; exact ⟨h3, o, rfl, h4⟩
  exact ⟨⟨e1, h1, fun p hp => (key p hp).1, fun p hp => let ⟨_, o, q, z⟩ := key p hp; frT_none q z, fun p hp => let ⟨_, o, q, z⟩ := key p hp; by rw [q, emptyTab_eq z]⟩, e3⟩
def hookY (n : Nat) (fa : List Fa) (fn : List DefD) (tf : List Defn) (ex : PySem.W.Frag → Bool) (ini : List IniD) : PySem.W.Hook where
  α := AlY
  obs := fun s => obsY n fa fn tf ex ini s.heap.get?
  val := fun w => (valX fn [] w, ini.map IniD.val)
  says := fun w h => ∃ K : PySem.W.Frag, K.In h ∧ SaysY fa fn tf ex ini w h K
  of := fun w h e => ⟨_, frT_in, saysY_of (w := w) (congrArg (fun z : AlY => z.1.1) e) (congrArg (fun z : AlY => z.1.2) e) (congrArg (fun z : AlY => z.2) e)⟩
  keeps := fun _ _ _ ⟨K, hK, c⟩ k => ⟨K, PySem.W.Frag.In.keeps hK k, ⟨⟨c.x.t, c.x.more, c.x.hd, c.x.out, fun p hp => k _ _ (c.x.empty p hp)⟩, c.ini⟩⟩
theorem obsY_eq {n : Nat} {fa : List Fa} {fn : List DefD} {tf : List Defn} {ex : PySem.W.Frag → Bool} {ini : List IniD} {g : Addr → Option Obj} {s : Shared} (h : ∀ a, g a = s.heap.get? a) : obsY n fa fn tf ex ini g = (hookY n fa fn tf ex ini).obs s := by
  have e : g = s.heap.get? := funext h
  rw [e] <;> rfl
theorem SaysY.iniAt {fa : List Fa} {fn : List DefD} {tf : List Defn} {ex : PySem.W.Frag → Bool} {ini : List IniD} {w : World} {h : Heap} {K : PySem.W.Frag} (c : SaysY fa fn tf ex ini w h K) (i : Nat) {d : IniD} (hi : ini[i]? = some d := by rfl) : iniW K d = d.val := by
  have e := congrArg (fun l => l[i]?) c.ini
  simp only [List.getElem?_map, hi, Option.map_some, Option.some.injEq] at e
  exact e
end PW

set_option Elab.async false
set_option linter.all false
set_option maxRecDepth 100000
set_option maxHeartbeats 2000000
namespace PW
open PySem PySem.Spec PyProof.Rows L2 He
theorem xc1 {P : Program} {w : World} {K : PySem.W.Frag} {mg : Str → Option Value} {base : Heap} {d : IniD} {x : Str} {q0 q1 q2 q3 q4 q5 q8 q9 q10 q11 : Pos} (e : iniW K d = d.val) (hok : d.ok P.main.file K = true) (hm : mg d.c = some (.ref (ga K d.c)))
    (hbody : d.body = superS [.Name x q5] q0 q1 q2 q3 q4 :: [.Assign [.Attribute (.Name "self" q8) x q9] (.Name x q10) q11]) (hfs : d.fs = [x]) (S : NdefX.NScope (("self" : Str) :: ([x] ++ [("__class__" : Str)])) ("self" :: [x]) ["__class__"] d.scope)
    (hks : d.scope.names.lookup ("super" : Str) = some .globalImplicit) (har : ((d.params.posonlyargs ++ d.params.args).head?.map (·.arg)) = some "self") (hsuper : mg "super" = none) (htop : (P.main.scope.names.lookup ("super" : Str)).isSome = false)
    (hbind : ∀ (doc pm ct : Value) (c cc : Addr) (us : List Value), us.length = (("self" : Str) :: [x]).length → bindArgs (PySem.W.ksFn d.name d.qual d.params d.body d.scope .none .none doc pm none (.ref c) ct cc) ⟨us, []⟩ = pure ((("self" : Str) :: [x]).zip us))
    (hself : ∀ (u : Value) (us : List Value), us.length = [x].length → ((("self" : Str) :: [x]).zip (u :: us)).reverse.lookup ("self" : Str) = some u)
    (hes : ∀ (u0 : Value) (us : List Value), us.length = [x].length → Paired (fun (e : Expr) (u : Value) => ∃ nm p, e = Expr.Name nm p ∧ nm ∈ [x] ∧ ((("self" : Str) :: [x]).zip (u0 :: us)).reverse.lookup nm = some u ∧ (nm == ("__debug__" : Str)) = false) [.Name x q5] us)
    (hv : ∀ (f L c cc : Addr), hev (NdefX.envF ⟨d.name, d.qual, d.params, d.body, d.scope, [(("__class__" : Str), cc)], c⟩ f L) [.Name x q5] q0 q1 q2 q3) (hpl : ∀ (f L c cc : Addr), (starEach [.Name x q5] (NdefX.envF ⟨d.name, d.qual, d.params, d.body, d.scope, [(("__class__" : Str), cc)], c⟩ f L)).any (·.1) = false)
    (hev1 : ∀ (f L c cc : Addr), interactive (NdefX.envF ⟨d.name, d.qual, d.params, d.body, d.scope, [(("__class__" : Str), cc)], c⟩ f L) = false ∧ swapsWith (.Call (.Attribute (.Call (.Name "super" q0) [] [] q1) "__init__" q2) [.Name x q5] [] q3) none q4.line (NdefX.envF ⟨d.name, d.qual, d.params, d.body, d.scope, [(("__class__" : Str), cc)], c⟩ f L) = pure false) (hd0 : (x == ("__debug__" : Str)) = false) (hc0 : (x == ("__classdict__" : Str)) = false) (hsw0 : ∀ (f L c cc : Addr), swapsWith (.Name x q10) (some (.Attribute (.Name "self" q8) x q9)) q11.line (NdefX.envF ⟨d.name, d.qual, d.params, d.body, d.scope, [(("__class__" : Str), cc)], c⟩ f L) = pure false) :
    XcOk P w K mg base d.c [x] := by
  obtain ⟨i1, i2, ⟨fI', name, qual, params, scope, c, cc⟩, rfl, rfl, rfl, rfl, rfl, ok⟩ := ini_ok e hok
  rw [hfs] at ok
  rw [hbody] at ok hbind hv hpl hev1 hsw0
  obtain ⟨fd, hb, F⟩ := initN (P := P) (w := w) (mg := mg) (base := base) (CX := L2.CX P w) (k := 0) (t := tOst K x (tVar 0) (tVar 1)) (xs := [x]) ok S hks (by obtain ⟨ar, e1, e2⟩ := Option.map_eq_some_iff.mp har; exact ⟨ar, e1, e2⟩) hsuper htop (fun doc pm ct us hl => hbind doc pm ct c cc us hl) hself hes (by simp) (fun f L => hv f L c cc) (fun f L => hpl f L c cc) (fun f L => hev1 f L c cc)
    (fun A outer s H E => by
      refine pss_one (ps_ost (to := tVar 0) (te := tVar 1) ?_ ?_ ?_)
      · exact pe_var (i := 0) (x := "self") rfl (.inl (S.par ("self" : Str) List.mem_cons_self))
      · exact pe_var (i := 1) (x := x) rfl (.inl (S.par x (by simp))) hd0 hc0
      · exact hsw0 _ _ _ _)
  refine ⟨⟨ga K d.c, fI K d.c, fd, hm, ok.oex, i1, i2, hb, F.imp fun vs H Q E ⟨a, ws, hvs, hl, ha, hq⟩ => ⟨a, ws, hvs, hl, by rw [hl]; simp, ha, ?_⟩⟩, by simp⟩
  · subst hvs
    cases ws with
    | nil => simp at hl
    | cons v ws =>
    cases ws with
    | cons _ _ => simp at hl
    | nil =>
    refine ⟨v, rfl, .ref a, rfl, a, ga K d.c, rfl, ok.oex, ok.noat _ (by simp), .inl ⟨ha, fun dx h1 h2 => hq dx h1 h2⟩⟩
theorem xc2 {P : Program} {w : World} {K : PySem.W.Frag} {mg : Str → Option Value} {base : Heap} {d : IniD} {x y : Str} {q0 q1 q2 q3 q4 q5 q6 q8 q9 q10 q11 q12 q13 q14 q15 : Pos} (e : iniW K d = d.val) (hok : d.ok P.main.file K = true) (hm : mg d.c = some (.ref (ga K d.c)))
    (hbody : d.body = superS [.Name x q5, .Name y q6] q0 q1 q2 q3 q4 :: [.Assign [.Attribute (.Name "self" q8) x q9] (.Name x q10) q11, .Assign [.Attribute (.Name "self" q12) y q13] (.Name y q14) q15]) (hfs : d.fs = [x, y]) (S : NdefX.NScope (("self" : Str) :: ([x, y] ++ [("__class__" : Str)])) ("self" :: [x, y]) ["__class__"] d.scope)
    (hks : d.scope.names.lookup ("super" : Str) = some .globalImplicit) (har : ((d.params.posonlyargs ++ d.params.args).head?.map (·.arg)) = some "self") (hsuper : mg "super" = none) (htop : (P.main.scope.names.lookup ("super" : Str)).isSome = false)
    (hbind : ∀ (doc pm ct : Value) (c cc : Addr) (us : List Value), us.length = (("self" : Str) :: [x, y]).length → bindArgs (PySem.W.ksFn d.name d.qual d.params d.body d.scope .none .none doc pm none (.ref c) ct cc) ⟨us, []⟩ = pure ((("self" : Str) :: [x, y]).zip us))
    (hself : ∀ (u : Value) (us : List Value), us.length = [x, y].length → ((("self" : Str) :: [x, y]).zip (u :: us)).reverse.lookup ("self" : Str) = some u)
    (hes : ∀ (u0 : Value) (us : List Value), us.length = [x, y].length → Paired (fun (e : Expr) (u : Value) => ∃ nm p, e = Expr.Name nm p ∧ nm ∈ [x, y] ∧ ((("self" : Str) :: [x, y]).zip (u0 :: us)).reverse.lookup nm = some u ∧ (nm == ("__debug__" : Str)) = false) [.Name x q5, .Name y q6] us)
    (hv : ∀ (f L c cc : Addr), hev (NdefX.envF ⟨d.name, d.qual, d.params, d.body, d.scope, [(("__class__" : Str), cc)], c⟩ f L) [.Name x q5, .Name y q6] q0 q1 q2 q3) (hpl : ∀ (f L c cc : Addr), (starEach [.Name x q5, .Name y q6] (NdefX.envF ⟨d.name, d.qual, d.params, d.body, d.scope, [(("__class__" : Str), cc)], c⟩ f L)).any (·.1) = false)
    (hev1 : ∀ (f L c cc : Addr), interactive (NdefX.envF ⟨d.name, d.qual, d.params, d.body, d.scope, [(("__class__" : Str), cc)], c⟩ f L) = false ∧ swapsWith (.Call (.Attribute (.Call (.Name "super" q0) [] [] q1) "__init__" q2) [.Name x q5, .Name y q6] [] q3) none q4.line (NdefX.envF ⟨d.name, d.qual, d.params, d.body, d.scope, [(("__class__" : Str), cc)], c⟩ f L) = pure false) (hd0 : (x == ("__debug__" : Str)) = false) (hc0 : (x == ("__classdict__" : Str)) = false) (hd1 : (y == ("__debug__" : Str)) = false) (hc1 : (y == ("__classdict__" : Str)) = false) (hsw0 : ∀ (f L c cc : Addr), swapsWith (.Name x q10) (some (.Attribute (.Name "self" q8) x q9)) q11.line (NdefX.envF ⟨d.name, d.qual, d.params, d.body, d.scope, [(("__class__" : Str), cc)], c⟩ f L) = pure false) (hsw1 : ∀ (f L c cc : Addr), swapsWith (.Name y q14) (some (.Attribute (.Name "self" q12) y q13)) q15.line (NdefX.envF ⟨d.name, d.qual, d.params, d.body, d.scope, [(("__class__" : Str), cc)], c⟩ f L) = pure false) :
    XcOk P w K mg base d.c [x, y] := by
  obtain ⟨i1, i2, ⟨fI', name, qual, params, scope, c, cc⟩, rfl, rfl, rfl, rfl, rfl, ok⟩ := ini_ok e hok
  rw [hfs] at ok
  rw [hbody] at ok hbind hv hpl hev1 hsw0 hsw1
  obtain ⟨fd, hb, F⟩ := initN (P := P) (w := w) (mg := mg) (base := base) (CX := L2.CX P w) (k := 0) (t := tSeq (tOst K x (tVar 0) (tVar 1)) (tOst K y (tVar 0) (tVar 2))) (xs := [x, y]) ok S hks (by obtain ⟨ar, e1, e2⟩ := Option.map_eq_some_iff.mp har; exact ⟨ar, e1, e2⟩) hsuper htop (fun doc pm ct us hl => hbind doc pm ct c cc us hl) hself hes (by simp) (fun f L => hv f L c cc) (fun f L => hpl f L c cc) (fun f L => hev1 f L c cc)
    (fun A outer s H E => by
      refine pss_cons (ps_ost (to := tVar 0) (te := tVar 1) ?_ ?_ ?_) (pss_one (ps_ost (to := tVar 0) (te := tVar 2) ?_ ?_ ?_))
      · exact pe_var (i := 0) (x := "self") rfl (.inl (S.par ("self" : Str) List.mem_cons_self))
      · exact pe_var (i := 1) (x := x) rfl (.inl (S.par x (by simp))) hd0 hc0
      · exact hsw0 _ _ _ _
      · exact pe_var (i := 0) (x := "self") rfl (.inl (S.par ("self" : Str) List.mem_cons_self))
      · exact pe_var (i := 2) (x := y) rfl (.inl (S.par y (by simp))) hd1 hc1
      · exact hsw1 _ _ _ _)
  refine ⟨⟨ga K d.c, fI K d.c, fd, hm, ok.oex, i1, i2, hb, F.imp fun vs H Q E ⟨a, ws, hvs, hl, ha, hq⟩ => ⟨a, ws, hvs, hl, by rw [hl]; simp, ha, ?_⟩⟩, by simp⟩
  · subst hvs
    cases ws with
    | nil => simp at hl
    | cons v ws =>
    cases ws with
    | nil => simp at hl
    | cons u ws =>
    cases ws with
    | cons _ _ => simp at hl
    | nil =>
    refine ⟨v, rfl, .ref a, rfl, a, ga K d.c, rfl, ok.oex, ok.noat _ (by simp), .inl ⟨ha, fun dx h1 h2 => ?_⟩⟩
    refine ⟨u, rfl, .ref a, rfl, a, ga K d.c, rfl, ok.oex, ok.noat _ (by simp), .inr ⟨dx, [(x, v)], upd_same, by rw [upd_ne h2, upd_same], by simp, ?_⟩⟩
    have hh := hq dx h1 h2
    have e : upd (upd (upd H dx (exd dx [(x, v)])) a (exo a (ga K d.c) (some dx))) dx (exd dx [(y, u), (x, v)]) = upd (upd H dx (exd dx [(y, u), (x, v)])) a (exo a (ga K d.c) (some dx)) := by
      funext b
      by_cases hb : b = dx
      · rw [hb, upd_same, upd_ne h2, upd_same]
      · rw [upd_ne hb]
        by_cases hb2 : b = a
        · rw [hb2, upd_same, upd_same]
        · rw [upd_ne hb2, upd_ne hb2, upd_ne hb, upd_ne hb]
    rw [e]
    exact hh
end PW

set_option Elab.async false
set_option linter.all false
set_option maxRecDepth 100000
set_option maxHeartbeats 0
namespace P98
open PySem PySem.Spec PyProof.Rows L2 PW
abbrev prog : Program := PySem.Challenge.pw_clubroom_k98_whole_sides_told_in_part
def st (j : Nat) : Stmt := (prog.main.body[j]?).getD (.Pass ⟨0, 0, 0, 0⟩)
def dd (n : Str) (j : Nat) : He.DefD := ⟨(n, none), n, n, C8.fnArgs (st j), C8.fnBody (st j), C8.fnScope (st j), [], []⟩
/-- the class body's __init__ -/
def initOf (j : Nat) : Stmt := match st j with
  | .ClassDef (body := b) .. => (b.find? fun s => match s with
    | .FunctionDef (name := n) .. => n == "__init__"
    | _ => false).getD (.Pass ⟨0, 0, 0, 0⟩)
  | s => s
def ii (c : Str) (j : Nat) (fs : List Str) : IniD := ⟨c, "__init__", c ++ ".__init__", C8.fnArgs (initOf j), C8.fnBody (initOf j), C8.fnScope (initOf j), fs⟩
def fn : List He.DefD := [dd "_law_bag" 46, dd "_law_take" 47, dd "_law_some" 48, dd "_law_lots" 52, dd "_law_couples" 51, dd "_law_parted" 58, dd "_law_table" 59, dd "_law_mixed" 49, dd "_law_empty" 54, dd "_law_others" 55, dd "_law_full" 53, dd "_law_parts" 56, dd "is_told" 24, dd "row_from" 36, dd "a_swing" 37, dd "parts_frame" 25, dd "all_good" 27, dd "some_lot" 28, dd "all_couples" 15, dd "open_couples" 20, dd "is_integer" 7, dd "are_all" 10, dd "are_integers" 11, dd "do_rise" 13, dd "is_lot" 16, dd "does_part" 26, dd "fills" 21, dd "_law_alike" 50, dd "is_row" 34, dd "is_swing" 35, dd "is_within" 8, dd "need_frame" 38, dd "sure_side" 39, dd "lots_many" 43, dd "best_person" 44, dd "need_two" 22, dd "tell" 23, dd "sure_by" 40, dd "surely_known" 41, dd "filled_by" 29, dd "_law_partings" 57, dd "sure_strangers" 42, dd "law" 61, dd "_law_heard" 60]
def fa : List He.Fa := [.glo "_law_bag", .glo "_law_take", .glo "_law_some", .glo "_law_lots", .glo "_law_couples", .glo "_law_parted", .glo "_law_table", .glo "_law_mixed", .glo "_law_empty", .glo "_law_others", .glo "_law_full", .glo "_law_parts", .glo "is_told", .glo "row_from", .glo "a_swing", .glo "parts_frame", .glo "all_good", .glo "some_lot", .glo "all_couples", .glo "open_couples", .glo "is_integer", .glo "are_all", .glo "are_integers", .glo "do_rise", .glo "is_lot", .glo "does_part", .glo "fills", .glo "_law_alike", .glo "is_row", .glo "is_swing", .glo "is_within", .glo "need_frame", .glo "sure_side", .glo "lots_many", .glo "best_person", .glo "need_two", .glo "tell", .glo "sure_by", .glo "surely_known", .glo "filled_by", .glo "_law_partings", .glo "sure_strangers", .glo "law", .glo "_law_heard", .free "isinstance", .free "all", .free "zip", .free "range", .free "min", .free "max", .free "len", .free "tuple", .free "list", .free "sorted", .free "enumerate", .free "sum", .free "any", .free "int", .free "abs", .free "set", .free "dict", .free "str", .free "bool", .free "repr", .free "super", .glo "Refused", .str "MEMBER" "member", .str "EITHER" "either", .str "GUEST" "guest", .str "STRANGER" "stranger", .str "KNOW" "know"]
def ini : List IniD := [ii "Refused" 2 ["why"]]
def tf : List He.Defn := [("law", none)]
def ex (K : PySem.W.Frag) : Bool := decide ((tf.map fun p => (He.cT K p).2).Nodup) && (ini.all (fun d => d.ok prog.main.file K) && ((xfB K (He.ga K "Refused") && (He.eqO (PySem.W.findIn K (.ref (He.ga K "Refused")) "why") (some none) && decide (PySem.W.exmOne K (.ref (He.ga K "Refused")) (.ref (He.ga K "Refused")) = some true)))))
abbrev R : PySem.W.OpenRow := PySem.W.OpenLaw.row PySem.Challenge.rw_clubroom_k98_whole_sides_told_in_part
abbrev hk : PySem.W.Hook := hookY 5 fa fn tf ex ini
def ob (s : PySem.W.SharedT) : AlY := obsY 5 fa fn tf ex ini (HandSHeadRun.getT s)
theorem ob_eq (s : PySem.W.SharedT) : ob s = hk.obs s.abs := obsY_eq (HandSHeadRun.getT_eq s)
def loose : List Str := (prog.boundNames.filter fun n => n != ("law" : Str))
theorem run (w : World) : HandSHeadRun.RunEq R (PySem.W.view R.prog [61]) hk ob 3000 loose w := by
  intro os
  kernel_rfl
end P98

set_option Elab.async false
set_option linter.all false
set_option maxRecDepth 100000
set_option maxHeartbeats 1000000
namespace PW
open PySem PySem.Spec PyProof.Rows L2
section
variable {M : Mo} {S : Fix} {f g : Env → W D} {pos : Pos}
/-- x, y = e1, e2, both own objects -/
theorem s_parFF (i j : Nat) {x y : Str} {e1 e2 : Expr} {px py pt : Pos} {kt k2 : Nat} {pt2 : Pos} (h1 : EvF M S e1 f) (h2 : EvF M S e2 g) (hN : S.N[i]? = some x := by kernel_rfl) (hN2 : S.N[j]? = some y := by kernel_rfl) (hij : i ≠ j := by decide)
    (hx : S.sc.names.lookup x = some .local := by kernel_rfl) (hy : S.sc.names.lookup y = some .local := by kernel_rfl) (hi : S.mt.contains i = true := by kernel_rfl) (hj : S.mt.contains j = true := by kernel_rfl)
    (ha : ∀ env, starEach [e1, e2] env = (false, eval e1 env) :: starEach [e2] env := by intro _; kernel_rfl) (hb : ∀ env, starEach [e2] env = (false, eval e2 env) :: starEach [] env := by intro _; kernel_rfl)
    (hw : ∀ env : PySem.Env, env.scope = S.sc → swappedStores [.Tuple [.Name x px, .Name y py] kt pt] (.Tuple [e1, e2] k2 pt2) env = pure (some [x, y]) := by intro env he; cases env; cases he; kernel_rfl) (hs : ∀ env : PySem.Env, env.scope = S.sc → swapsWithSole [.Tuple [.Name x px, .Name y py] kt pt] (.Tuple [e1, e2] k2 pt2) pos.line env = pure false := by intro env he; cases env; cases he; kernel_rfl) :
    EvS M S (.Assign [.Tuple [.Name x px, .Name y py] kt pt] (.Tuple [e1, e2] k2 pt2) pos) fun ρ => (f ρ).bind fun d => (g ρ).bind fun d' => W.pure (.nx ((ρ.set i (some d)).set j (some d'))) := fun X G => by
  refine (ps_par (i := i) (j := j) G.calm (by rw [G.N]; exact G.nd) (by rw [G.N]; exact hN) (by rw [G.N]; exact hN2) hij (by rw [G.sc]; exact hx) (by rw [G.sc]; exact hy) (pa_cons (h1 X G) (pa_cons (h2 X G) pa_nil (hb _)) (ha _)) (hw _ G.sc) (hs _ G.sc)).impW fun D σ H fc ⟨z0, H0, z, ρ, E, h⟩ => ?_
  refine ⟨z0, H0, z, ρ, E, (f ρ).mono (fun d k a o z1 H1 st1 fc1 hn hf hβ ho c => ?_) h⟩
  refine ⟨z0, H0, z1, ρ, E.step st1, (g ρ).mono (fun d' k a2 o2 z2 H2 st2 fc2 hn2 hf2 hβ2 ho2 c2 => ?_) k⟩
  have E1 := E.setOwn st1 (List.contains_iff_mem.mp hi) hn hf hβ ho c
  exact ⟨_, _, rfl, fun _ => k _ z2 H2 (st1.le.trans st2.le) (E1.setOwn st2 (List.contains_iff_mem.mp hj) hn2 hf2 hβ2 ho2 c2)⟩
/-- x, y = e1, e2, the second an own object -/
theorem s_parVF (i j : Nat) {x y : Str} {e1 e2 : Expr} {px py pt : Pos} {kt k2 : Nat} {pt2 : Pos} (h1 : EvV M S e1 f) (h2 : EvF M S e2 g) (hN : S.N[i]? = some x := by kernel_rfl) (hN2 : S.N[j]? = some y := by kernel_rfl) (hij : i ≠ j := by decide)
    (hx : S.sc.names.lookup x = some .local := by kernel_rfl) (hy : S.sc.names.lookup y = some .local := by kernel_rfl) (hi : S.mt.contains i = false := by kernel_rfl) (hj : S.mt.contains j = true := by kernel_rfl)
    (ha : ∀ env, starEach [e1, e2] env = (false, eval e1 env) :: starEach [e2] env := by intro _; kernel_rfl) (hb : ∀ env, starEach [e2] env = (false, eval e2 env) :: starEach [] env := by intro _; kernel_rfl)
    (hw : ∀ env : PySem.Env, env.scope = S.sc → swappedStores [.Tuple [.Name x px, .Name y py] kt pt] (.Tuple [e1, e2] k2 pt2) env = pure (some [x, y]) := by intro env he; cases env; cases he; kernel_rfl) (hs : ∀ env : PySem.Env, env.scope = S.sc → swapsWithSole [.Tuple [.Name x px, .Name y py] kt pt] (.Tuple [e1, e2] k2 pt2) pos.line env = pure false := by intro env he; cases env; cases he; kernel_rfl) :
    EvS M S (.Assign [.Tuple [.Name x px, .Name y py] kt pt] (.Tuple [e1, e2] k2 pt2) pos) fun ρ => (f ρ).bind fun d => (g ρ).bind fun d' => W.pure (.nx ((ρ.set i (some d)).set j (some d'))) := fun X G => by
  refine (ps_par (i := i) (j := j) G.calm (by rw [G.N]; exact G.nd) (by rw [G.N]; exact hN) (by rw [G.N]; exact hN2) hij (by rw [G.sc]; exact hx) (by rw [G.sc]; exact hy) (pa_cons (h1 X G) (pa_cons (h2 X G) pa_nil (hb _)) (ha _)) (hw _ G.sc) (hs _ G.sc)).impW fun D σ H fc ⟨z0, H0, z, ρ, E, h⟩ => ?_
  have hm : i ∉ S.mt := fun m => by rw [List.contains_iff_mem.mpr m] at hi; cases hi
  refine ⟨z0, H0, z, ρ, E, (f ρ).mono (fun d k v z1 H1 st1 fc1 r1 => ?_) h⟩
  refine ⟨z0, H0, z1, ρ, E.step st1, (g ρ).mono (fun d' k a2 o2 z2 H2 st2 fc2 hn2 hf2 hβ2 ho2 c2 => ?_) k⟩
  have E1 := (E.step st1).set hm r1
  exact ⟨_, _, rfl, fun _ => k _ z2 H2 (st1.le.trans st2.le) (E1.setOwn st2 (List.contains_iff_mem.mp hj) hn2 hf2 hβ2 ho2 c2)⟩
end
/-! ### what is heard -/
theorem W.ext' {α : Type} {x y : W α} (h : ∀ Q, x.run Q ↔ y.run Q) : x = y := by
  obtain ⟨f, hf⟩ := x
  obtain ⟨g, hg⟩ := y
  have e : f = g := funext fun Q => propext (h Q)
  subst e
  rfl
theorem heard_told (h : HSh) (d : D) : heardW h (fun _ => W.pure d) = W.pure (.tup [.str h.told, d]) := W.ext' fun Q => ⟨fun ⟨Q0, a, b⟩ => a _ b, fun q => ⟨Q, fun _ x => x, q⟩⟩
theorem heard_ref (h : HSh) (d : D) : heardW h (fun ε => W.raise ε ⟨h.cls, [(h.at_, d)]⟩) = W.pure (.tup [.str h.lab, d]) := W.ext' fun Q => ⟨fun ⟨Q0, a, b⟩ => by
  obtain ⟨d', e1, e2, q⟩ := b
  cases e2
  exact a _ q, fun q => ⟨Q, fun _ x => x, d, rfl, rfl, q⟩⟩
theorem heard_ite (h : HSh) (c : Prop) [Decidable c] (x y : Eps → W D) : heardW h (fun ε => if c then x ε else y ε) = if c then heardW h x else heardW h y := by split <;> rfl
/-- a def's module: its table of defs, its level, what it may raise -/
def mo (T : Tab) (lv : Nat) (free : List Str) (con : List (Str × D)) (xc : List (Str × List Str)) (hd : List (Str × HSh)) (lam gd : Bool) (ε : Eps) : Mo := { T := T, lv := lv, free := free, con := con, eps := ε, xc := xc, hd := hd, lam := lam, gd := gd }
theorem mo_eps {T : Tab} {lv : Nat} {free : List Str} {con : List (Str × D)} {xc : List (Str × List Str)} {hd : List (Str × HSh)} {lam gd : Bool} {ε : Eps} : (mo T lv free con xc hd lam gd ε).eps = ε := rfl
theorem inLam_eps {M : Mo} {ε : Eps} : (M.inLam ε).eps = ε := rfl
theorem nox_eps {M : Mo} : M.nox.eps = eps0 := rfl
end PW

set_option Elab.async false
set_option linter.all false
set_option maxRecDepth 100000
set_option maxHeartbeats 2000000
namespace PW
open PySem PySem.Spec PyProof.Rows L2 He
/-! ### the tables of code objects -/
def tbOf (K : PySem.W.Frag) (tf : List Defn) : List (Addr × Str) := tf.map fun p => ((cT K p).2, (p.1 ++ (".<locals>." : Str)) ++ "<lambda>")
theorem nodup_inj {α β : Type} {f : α → β} : ∀ {l : List α}, (l.map f).Nodup → ∀ {x y : α}, x ∈ l → y ∈ l → f x = f y → x = y
  | [], _, _, _, hx, _, _ => absurd hx List.not_mem_nil
  | a :: l, h, x, y, hx, hy, e => by
    rw [List.map_cons, List.nodup_cons] at h
    rcases List.mem_cons.mp hx with hx1 | hx1
    · rcases List.mem_cons.mp hy with hy1 | hy1
      · rw [hx1, hy1]
      · exact absurd (by rw [← hx1, e]; exact List.mem_map_of_mem hy1) h.1
    · rcases List.mem_cons.mp hy with hy1 | hy1
      · exact absurd (by rw [← hy1, ← e]; exact List.mem_map_of_mem hx1) h.1
      · exact nodup_inj h.2 hx1 hy1 e
theorem lam_ok {K : PySem.W.Frag} {mg : Str → Option Value} {base : Heap} {tf : List Defn} {x q : Str} {params : Arguments} {body : List Stmt} {scope : Scope} {fd : FuncData} (p : Defn) (hp : p ∈ tf) (F : FunD K x q params body scope [] [] (fAd K p) fd)
    (TB : ∀ p ∈ tf, LamX.TabB base mg (cT K p).1 (cT K p).2) (nd : (tf.map fun p => (cT K p).2).Nodup) : LamAt K mg base fd.code (p.1 ++ (".<locals>." : Str)) (tbOf K tf) := by
  obtain ⟨oc, od, dV, kV, doc, pm, an, cdv, ct, osl, rfl, lk, hcd, _, _⟩ := F.ex
  obtain ⟨c, rfl⟩ := codeIn_ref hcd
  have e : codeOf K p = c := codeOf_eq lk rfl
  refine ⟨c, (cT K p).2, rfl, ?_, List.mem_map.mpr ⟨p, hp, rfl⟩, fun r hr er => ?_⟩
  · have t := TB p hp
    have e1 : (cT K p).1 = c := e
    rw [← e1]
    exact t
  · obtain ⟨p', hp', rfl⟩ := List.mem_map.mp hr
    have : p' = p := nodup_inj nd hp' hp er
    subst this
    rfl
end PW

set_option Elab.async false
set_option linter.all false
set_option maxRecDepth 100000
set_option maxHeartbeats 2000000
namespace PW
open PySem PySem.Spec PyProof.Rows L2
/-! ### the end of a law's proof -/
theorem walk_ofG {l : PySem.W.OpenLaw} {n : Nat} {q : Program} {loose : List Str} {XP : (Str → Option Value) → Heap → Prop} {YP : World → Heap → Prop} {d : DefRec} {cs : PySem.W.Frag → List (Addr × Addr)}
    (hn : l.most = some n) (hn2 : n ≤ sizeLine) (hdf : d.params.defaults = [])
    (F : ∀ (w : World) (mg : Str → Option Value) (fl : Addr) (h : Heap), YP w h → h.Ns mainGlobals mg → mg d.name = some (.ref fl) → ∃ K : PySem.W.Frag, K.In h ∧ (∀ p ∈ cs K, h.get? p.2 = some { cls := .none, data := .fields #[] }) ∧ (∀ p ∈ cs K, K.lookup p.2 = none) ∧ (∀ p ∈ cs K, PySem.W.CodeHd h p.1 p.2) ∧
      ∀ (base : Heap) (H : Hp) (s : Shared) (a : Addr) (ns : List Int), ns.length ≤ n → K.In base → base.Ns mainGlobals mg → (∀ p ∈ cs K, LamX.TabB base mg p.1 p.2) → (∀ p ∈ cs K, H p.2 = some (.tbl #[])) → SqL K H a (ns.map V.int) → Env0 l.prog w K mg base callerA [] s H →
        codeAny (model l.prog w) callerA (.call (.ref fl) ⟨[.ref a], []⟩) (CR CX0 [] l.prog w H s (fun v _ => v = .bl true) (fun _ _ _ => False)) s) :
    PySem.W.WalkO q loose XP YP l.row.toRowW d [] (fun f vs => PySem.call f vs) := by
  refine Att.attach_callB hn hdf fun w s₀ s₁ mg mb fl o pm cd doc a vs ns G Y ho hd hcd hmg hobj hints hlen hbits hg => ?_
  obtain ⟨K, KX, hT, nT, C, run⟩ := F w mg fl _ Y G.T.g hmg
  exact law_callG KX G.T.g G.T.b G.T.builtins G.T.nolimit hg hT nT C G.T.bmain hobj hints (Nat.le_trans hlen hn2) fun base H X Gb TB hH hS e0 => run base H s₁ a ns hlen X Gb TB hH hS e0
end PW

set_option Elab.async false
set_option linter.all false
set_option maxRecDepth 100000
set_option maxHeartbeats 1000000
namespace PW
open PySem PySem.Spec PyProof.Rows L2 Cod
open PySem.W (keyToks keyToksAll alike alikeAll dataLe dataLt)
/-! ### lists and triples as typed things -/
structure PL (α : Type) where
  l : List α
  deriving DecidableEq
structure Tri (α β γ : Type) where
  a : α
  b : β
  c : γ
  deriving DecidableEq
section
variable {α β γ : Type} [DecidableEq α] [Cod α] [DecidableEq β] [Cod β] [DecidableEq γ] [Cod γ]
instance : Cod (PL α) where
  enc x := .lst (x.l.map enc)
  py x := .list (x.l.map py)
  tupk := false
  dep := dep α + 1
  hpy xs := by rw [D.py, pyL_enc]; rfl
  lay xs := by rw [PyData.canLay0]; exact lay_all xs.l
  hdep xs := by rw [PyData.depth]; exact Nat.succ_le_succ (dep_all xs.l)
  eqv xs ys := by
    obtain ⟨xs⟩ := xs
    obtain ⟨ys⟩ := ys
    rw [PyData.eqv, eqv_all xs ys]
    by_cases h : xs = ys <;> simp [h]
  toks xs ys r r' h := by
    obtain ⟨xs⟩ := xs
    obtain ⟨ys⟩ := ys
    rw [keyToks, keyToks] at h
    obtain ⟨e, h⟩ := toks_all xs ys r r' h
    exact ⟨by rw [e], h⟩
  alk xs ys := by rw [alike]; exact alk_all xs.l ys.l
  nn x := by simp
  tk1 h := by cases h
  tk2 _ x xs := by simp
instance : Cod (Tri α β γ) where
  enc x := .tup [enc x.a, enc x.b, enc x.c]
  py x := .tuple [py x.a, py x.b, py x.c]
  tupk := true
  dep := max (dep α) (max (dep β) (dep γ)) + 1
  hpy x := by rw [D.py, pyL, hpy, pyL, hpy, pyL, hpy]; rfl
  lay x := by simp [PyData.canLay0, PyData.canLayAll0, lay]
  hdep x := by
    have h1 := hdep x.a
    have h2 := hdep x.b
    have h3 := hdep x.c
    simp only [PyData.depth, PyData.depthAll]
    omega
  eqv x y := by
    obtain ⟨a, b, c⟩ := x
    obtain ⟨d, e, f⟩ := y
    rw [PyData.eqv, PyData.eqvAll, PyData.eqvAll, PyData.eqvAll, PyData.eqvAll, eqv, eqv, eqv]
    by_cases h : a = d <;> by_cases h2 : b = e <;> by_cases h3 : c = f <;> simp [h, h2, h3]
  toks x y r r' h := by
    obtain ⟨a, b, c⟩ := x
    obtain ⟨d, e, f⟩ := y
    simp only [keyToks, keyToksAll, List.cons_append, List.append_assoc, List.nil_append, List.cons.injEq, true_and] at h
    obtain ⟨e1, h⟩ := toks _ _ _ _ h
    simp only [List.cons.injEq, true_and] at h
    obtain ⟨e2, h⟩ := toks _ _ _ _ h
    simp only [List.cons.injEq, true_and] at h
    obtain ⟨e3, h⟩ := toks _ _ _ _ h
    simp only [List.cons.injEq, true_and] at h
    exact ⟨by rw [e1, e2, e3], h⟩
  alk x y := by simp [alike, alikeAll, alk]
  nn x := by simp
  tk1 _ x := ⟨_, rfl⟩
  tk2 h := by cases h
instance [Alk α] : Alk (PL α) := ⟨fun xs => by
  show D.alkL _ = true
  exact D.alkL_of fun d hd => by obtain ⟨x, _, rfl⟩ := List.mem_map.mp hd; exact Alk.alk x⟩
instance [Alk α] [Alk β] [Alk γ] : Alk (Tri α β γ) := ⟨fun x => by
  show D.alkL _ = true
  rw [D.alkL, D.alkL, D.alkL, D.alkL, Alk.alk, Alk.alk, Alk.alk]
  rfl⟩
/-! ### comprehensions over typed things -/
def cmpT {α : Type} (P : α → W Bool) (G : α → W D) : List α → W (List D)
  | [] => W.pure []
  | x :: xs => (P x).bind fun b => if b = true then (G x).bind fun d => (cmpT P G xs).bind fun r => W.pure (d :: r) else cmpT P G xs
theorem compW_acc {t : Tgt} {p : Env → W Bool} {f : Env → W D} : ∀ {ds : List D} {ρ : Env} {acc : List D}, compW t p f ds ρ acc = (compW t p f ds ρ []).bind fun r => W.pure (acc ++ r)
  | [], ρ, acc => by rw [compW, compW, W.pure_bind, List.append_nil]
  | d :: ds, ρ, acc => by
    refine W.ext_run fun Q => ?_
    rw [compW, compW, W.bind_assoc]
    simp only [W.run_bind]
    have e : ∀ ρ' b, (if b = true then (f ρ').bind fun y => compW t p f ds ρ (acc ++ [y]) else compW t p f ds ρ acc) = (if b = true then (f ρ').bind fun y => compW t p f ds ρ ([] ++ [y]) else compW t p f ds ρ []).bind fun r => W.pure (acc ++ r) := by
      intro ρ' b
      cases b with
      | true =>
        simp only [if_true]
        rw [W.bind_assoc]
        congr 1
        funext y
        rw [compW_acc, compW_acc (acc := [] ++ [y]), W.bind_assoc]
        congr 1
        funext r
        rw [W.pure_bind, List.nil_append, List.append_assoc]
      | false =>
        simp only [Bool.false_eq_true, if_false]
        exact compW_acc
    simp only [e, W.run_bind]
theorem compW_all {α : Type} {t : Tgt} {p : Env → W Bool} {f : Env → W D} {ρ : Env} {e : α → D} {st : α → Env} (ht : ∀ x, t.set (e x) ρ = W.pure (st x)) : ∀ (xs : List α), compW t p f (xs.map e) ρ [] = cmpT (fun x => p (st x)) (fun x => f (st x)) xs
  | [] => rfl
  | x :: xs => by
    rw [List.map_cons, compW, cmpT, ht, W.pure_bind]
    congr 1
    funext b
    cases b with
    | true =>
      simp only [if_true, List.nil_append]
      congr 1
      funext y
      rw [compW_acc, compW_all ht xs]
      rfl
    | false =>
      simp only [Bool.false_eq_true, if_false]
      exact compW_all ht xs
theorem cW_nm {α : Type} {i : Nat} {p : Env → W Bool} {f : Env → W D} {ρ : Env} {e : α → D} {xs : List α} : compW (.nm i) p f (xs.map e) ρ [] = cmpT (fun x => p (ρ.set i (some (e x)))) (fun x => f (ρ.set i (some (e x)))) xs := compW_all (fun _ => rfl) xs
theorem cW_tp {i j : Nat} {p : Env → W Bool} {f : Env → W D} {ρ : Env} {xs : List (α × β)} : compW (.tp [i, j]) p f (xs.map enc) ρ [] = cmpT (fun x => p ((ρ.set i (some (enc x.1))).set j (some (enc x.2)))) (fun x => f ((ρ.set i (some (enc x.1))).set j (some (enc x.2)))) xs := compW_all (fun _ => rfl) xs
theorem cW_tpf {δ : Type} {g : δ → α × β} {i j : Nat} {p : Env → W Bool} {f : Env → W D} {ρ : Env} {xs : List δ} : compW (.tp [i, j]) p f (xs.map fun x => enc (g x)) ρ [] = cmpT (fun x => p ((ρ.set i (some (enc (g x).1))).set j (some (enc (g x).2)))) (fun x => f ((ρ.set i (some (enc (g x).1))).set j (some (enc (g x).2)))) xs := compW_all (fun _ => rfl) xs
theorem cW_tp3 {i j k : Nat} {p : Env → W Bool} {f : Env → W D} {ρ : Env} {xs : List (Tri α β γ)} : compW (.tp [i, j, k]) p f (xs.map enc) ρ [] = cmpT (fun x => p (((ρ.set i (some (enc x.a))).set j (some (enc x.b))).set k (some (enc x.c)))) (fun x => f (((ρ.set i (some (enc x.a))).set j (some (enc x.b))).set k (some (enc x.c)))) xs := compW_all (fun _ => rfl) xs
theorem cmpT_congr {α : Type} {P P' : α → W Bool} {G G' : α → W D} {xs xs' : List α} (h1 : xs = xs') (h2 : ∀ x, x ∈ xs' → P x = P' x) (h3 : ∀ x, x ∈ xs' → G x = G' x) : cmpT P G xs = cmpT P' G' xs' := by
  subst h1
  induction xs with
  | nil => rfl
  | cons x xs ih => rw [cmpT, cmpT, h2 x List.mem_cons_self, h3 x List.mem_cons_self, ih (fun y hy => h2 y (List.mem_cons_of_mem _ hy)) fun y hy => h3 y (List.mem_cons_of_mem _ hy)]
theorem cmpT_pure {α : Type} (pb : α → Bool) (g : α → D) : ∀ xs : List α, cmpT (fun x => W.pure (pb x)) (fun x => W.pure (g x)) xs = W.pure ((xs.filter pb).map g)
  | [] => rfl
  | x :: xs => by
    rw [cmpT, W.pure_bind, cmpT_pure pb g xs, W.pure_bind, W.pure_bind]
    cases h : pb x with
    | true => rw [if_pos rfl, List.filter_cons_of_pos h]; rfl
    | false => rw [if_neg (by simp), List.filter_cons_of_neg (by simp [h])]
theorem cmpT_true {α : Type} (g : α → D) (xs : List α) : cmpT (fun _ => W.pure true) (fun x => W.pure (g x)) xs = W.pure (xs.map g) := by
  rw [cmpT_pure (fun _ => true), List.filter_eq_self.mpr fun _ _ => rfl]
/-- the shape of a comprehension that gives a list -/
theorem lcW_eq {fi : Env → W (List D)} {t : Tgt} {p : Env → W Bool} {f : Env → W D} {vs : List Nat} {ρ : Env} : lcW fi t p f vs ρ = (fi ρ).bind fun ds => (compW t p f ds (wipeE ρ vs) []).bind fun r => W.pure (.lst r) := rfl
/-! two clauses -/
def cmpI {β : Type} (P : β → W Bool) (G : β → W D) : List β → List D → W (List D)
  | [], acc => W.pure acc
  | y :: ys, acc => (P y).bind fun b => if b = true then (G y).bind fun d => (W.need (acc.length < sizeLine)).bind fun _ => cmpI P G ys (acc ++ [d]) else cmpI P G ys acc
theorem compI_al {β : Type} {t : Tgt} {p : Env → W Bool} {f : Env → W D} {ρ : Env} {e : β → D} {st : β → Env} (ht : ∀ x, t.set (e x) ρ = W.pure (st x)) : ∀ (ys : List β) (acc : List D), compI t p f (ys.map e) ρ acc = cmpI (fun x => p (st x)) (fun x => f (st x)) ys acc
  | [], acc => rfl
  | y :: ys, acc => by
    rw [List.map_cons, compI, cmpI, ht, W.pure_bind]
    congr 1
    funext b
    cases b with
    | true =>
      simp only [if_true]
      congr 1
      funext d
      congr 1
      funext _
      exact compI_al ht ys _
    | false =>
      simp only [Bool.false_eq_true, if_false]
      exact compI_al ht ys _
theorem cI_nm {β : Type} {j : Nat} {p : Env → W Bool} {f : Env → W D} {ρ : Env} {e : β → D} {ys : List β} {acc : List D} : compI (.nm j) p f (ys.map e) ρ acc = cmpI (fun y => p (ρ.set j (some (e y)))) (fun y => f (ρ.set j (some (e y)))) ys acc := PW.compI_al (fun _ => rfl) ys acc
theorem cmpI_congr {β : Type} {P P' : β → W Bool} {G G' : β → W D} {ys ys' : List β} {acc acc' : List D} (h1 : ys = ys') (h2 : ∀ y, y ∈ ys' → P y = P' y) (h3 : ∀ y, y ∈ ys' → G y = G' y) (h4 : acc = acc') : cmpI P G ys acc = cmpI P' G' ys' acc' := by
  subst h1 h4
  induction ys generalizing acc with
  | nil => rfl
  | cons x xs ih =>
    have ih := fun acc => ih (acc := acc) (fun y hy => h2 y (List.mem_cons_of_mem _ hy)) fun y hy => h3 y (List.mem_cons_of_mem _ hy)
    rw [cmpI, cmpI, h2 x List.mem_cons_self, h3 x List.mem_cons_self]
    simp only [ih]
theorem cmpI_pure {β : Type} (pb : β → Bool) (g : β → D) : ∀ (ys : List β) (acc : List D), acc.length + ys.length ≤ sizeLine → cmpI (fun y => W.pure (pb y)) (fun y => W.pure (g y)) ys acc = W.pure (acc ++ (ys.filter pb).map g)
  | [], acc, _ => by rw [cmpI, List.filter_nil, List.map_nil, List.append_nil]
  | y :: ys, acc, h => by
    rw [List.length_cons] at h
    rw [cmpI, W.pure_bind]
    cases q : pb y with
    | true => rw [if_pos rfl, W.pure_bind, W.need_bind (by omega), cmpI_pure pb g ys _ (by rw [List.length_append, List.length_singleton]; omega), List.filter_cons_of_pos q, List.map_cons, List.append_assoc]; rfl
    | false => rw [if_neg (by simp), cmpI_pure pb g ys _ (by omega), List.filter_cons_of_neg (by simp [q])]
def cmpO {α : Type} (P : α → W Bool) (N : α → List D → W (List D)) : List α → List D → W (List D)
  | [], acc => W.pure acc
  | x :: xs, acc => (P x).bind fun b => if b = true then (N x acc).bind fun acc' => cmpO P N xs acc' else cmpO P N xs acc
theorem compO_all {α : Type} {t t1 : Tgt} {p p1 : Env → W Bool} {fi1 : Env → W (List D)} {vs1 : List Nat} {f : Env → W D} {ρ : Env} {e : α → D} {st : α → Env} (ht : ∀ x, t.set (e x) ρ = W.pure (st x)) : ∀ (xs : List α) (acc : List D), compO t p fi1 vs1 t1 p1 f (xs.map e) ρ acc = cmpO (fun x => p (st x)) (fun x acc => (fi1 (st x)).bind fun ds => compI t1 p1 f ds (wipeE (st x) vs1) acc) xs acc
  | [], acc => rfl
  | x :: xs, acc => by
    rw [List.map_cons, compO, cmpO, ht, W.pure_bind]
    congr 1
    funext b
    cases b with
    | true =>
      simp only [if_true, W.bind_assoc]
      congr 1
      funext ds
      congr 1
      funext acc'
      exact compO_all ht xs _
    | false =>
      simp only [Bool.false_eq_true, if_false]
      exact compO_all ht xs _
theorem cO_nm {α : Type} {i : Nat} {t1 : Tgt} {p p1 : Env → W Bool} {fi1 : Env → W (List D)} {vs1 : List Nat} {f : Env → W D} {ρ : Env} {e : α → D} {xs : List α} {acc : List D} : compO (.nm i) p fi1 vs1 t1 p1 f (xs.map e) ρ acc = cmpO (fun x => p (ρ.set i (some (e x)))) (fun x acc => (fi1 (ρ.set i (some (e x)))).bind fun ds => compI t1 p1 f ds (wipeE (ρ.set i (some (e x))) vs1) acc) xs acc := compO_all (fun _ => rfl) xs acc
theorem cmpO_congr {α : Type} {P P' : α → W Bool} {N N' : α → List D → W (List D)} {xs xs' : List α} {acc acc' : List D} (h1 : xs = xs') (h2 : ∀ x, x ∈ xs' → P x = P' x) (h3 : ∀ x, x ∈ xs' → ∀ a, N x a = N' x a) (h4 : acc = acc') : cmpO P N xs acc = cmpO P' N' xs' acc' := by
  subst h1 h4
  induction xs generalizing acc with
  | nil => rfl
  | cons x xs ih =>
    have ih := fun acc => ih (acc := acc) (fun y hy => h2 y (List.mem_cons_of_mem _ hy)) fun y hy => h3 y (List.mem_cons_of_mem _ hy)
    rw [cmpO, cmpO, h2 x List.mem_cons_self]
    simp only [ih, h3 x List.mem_cons_self]
theorem cmpO_pure {α β : Type} (pa : α → Bool) (ys : α → List β) (pb : α → β → Bool) (g : α → β → D) : ∀ (xs : List α) (acc : List D), acc.length + (xs.map fun x => (ys x).length).sum ≤ sizeLine →
    cmpO (fun x => W.pure (pa x)) (fun x a => cmpI (fun y => W.pure (pb x y)) (fun y => W.pure (g x y)) (ys x) a) xs acc = W.pure (acc ++ (xs.filter pa).flatMap fun x => ((ys x).filter (pb x)).map (g x))
  | [], acc, _ => by rw [cmpO, List.filter_nil, List.flatMap_nil, List.append_nil]
  | x :: xs, acc, h => by
    rw [List.map_cons, List.sum_cons] at h
    rw [cmpO, W.pure_bind]
    have hl := List.length_filter_le (pb x) (ys x)
    cases q : pa x with
    | true => rw [if_pos rfl, cmpI_pure _ _ _ _ (by omega), W.pure_bind, cmpO_pure pa ys pb g xs _ (by rw [List.length_append, List.length_map]; omega), List.filter_cons_of_pos q, List.flatMap_cons, List.append_assoc]
    | false => rw [if_neg (by simp), cmpO_pure pa ys pb g xs _ (by omega), List.filter_cons_of_neg (by simp [q])]
theorem lc2_eq {fi fi1 : Env → W (List D)} {t t1 : Tgt} {p p1 : Env → W Bool} {f : Env → W D} {vs vs1 : List Nat} {ρ : Env} : lc2W fi t p fi1 vs1 t1 p1 f vs ρ = (fi ρ).bind fun ds => (compO t p fi1 vs1 t1 p1 f ds (wipeE ρ vs) []).bind fun r => W.pure (.lst r) := rfl
/-! ### the operations on typed things -/
theorem eI (i : Int) : D.int i = enc i := rfl
theorem eB (b : Bool) : D.bl b = enc b := rfl
theorem eP (a : α) (b : β) : D.tup [enc a, enc b] = enc (a, b) := rfl
theorem eT (a : α) (b : β) (c : γ) : D.tup [enc a, enc b, enc c] = enc (Tri.mk a b c) := rfl
theorem eL {δ : Type} (g : δ → α) (xs : List δ) : D.lst (xs.map fun x => enc (g x)) = enc (PL.mk (xs.map g)) := by
  show _ = D.lst ((xs.map g).map enc)
  rw [List.map_map]
  rfl
theorem eF {δ ε : Type} (g : δ → ε → α) (xs : List δ) (ys : δ → List ε) : D.lst (xs.flatMap fun x => (ys x).map fun y => enc (g x y)) = enc (PL.mk (xs.flatMap fun x => (ys x).map (g x))) := by
  show _ = D.lst ((xs.flatMap fun x => (ys x).map (g x)).map enc)
  rw [List.map_flatMap]
  simp only [List.map_map]
  rfl
theorem e_eq (x y : α) (h : dep α ≤ 64) : D.eq (enc x) (enc y) = W.pure (enc (decide (x = y))) := D.eq_enc x y h
theorem e_ne (x y : α) (h : dep α ≤ 64) : D.ne (enc x) (enc y) = W.pure (enc (!decide (x = y))) := D.ne_enc x y h
theorem e_nil_eq (xs : List α) (h : dep α + 1 ≤ 64) : D.eq (enc (PL.mk xs)) (.lst []) = W.pure (enc (decide (xs = []))) := D.eq_lst xs [] h
theorem e_nil_ne (xs : List α) (h : dep α + 1 ≤ 64) : D.ne (enc (PL.mk xs)) (.lst []) = W.pure (enc (!decide (xs = []))) := D.ne_lst xs [] h
theorem e_tnil_eq (xs : List α) (h : dep α + 1 ≤ 64) : D.eq (enc xs) (.tup []) = W.pure (enc (decide (xs = []))) := D.eq_enc xs [] h
theorem e_tnil_ne (xs : List α) (h : dep α + 1 ≤ 64) : D.ne (enc xs) (.tup []) = W.pure (enc (!decide (xs = []))) := D.ne_enc xs [] h
theorem e_lt (i j : Int) : D.lt (enc i) (enc j) = W.pure (enc (decide (i < j))) := rfl
theorem e_le (i j : Int) : D.le (enc i) (enc j) = W.pure (enc (decide (i ≤ j))) := rfl
theorem e_gt (i j : Int) : D.gt (enc i) (enc j) = W.pure (enc (decide (j < i))) := rfl
theorem e_ge (i j : Int) : D.ge (enc i) (enc j) = W.pure (enc (decide (j ≤ i))) := rfl
theorem e_add (i j : Int) : D.add (enc i) (enc j) = W.pure (enc (i + j)) := rfl
theorem e_sub (i j : Int) : D.sub (enc i) (enc j) = W.pure (enc (i - j)) := rfl
theorem e_neg (i : Int) : D.neg (enc i) = W.pure (enc (-i)) := rfl
theorem e_min (i j : Int) : D.min [enc i, enc j] = W.pure (enc (min i j)) := by
  show W.pure (D.int (if j < i then j else i)) = W.pure (D.int (min i j))
  congr 2
  by_cases h : j < i <;> simp [h] <;> omega
theorem e_max (i j : Int) : D.max [enc i, enc j] = W.pure (enc (max i j)) := by
  show W.pure (D.int (if j > i then j else i)) = W.pure (D.int (max i j))
  congr 2
  by_cases h : j > i <;> simp [h] <;> omega
theorem e_abs (i : Int) : D.abs [enc i] = W.pure (enc (if i < 0 then -i else i)) := rfl
theorem e_int (i : Int) : D.int1 [enc i] = W.pure (enc i) := rfl
theorem e_intb (b : Bool) : D.int1 [enc b] = W.pure (enc (if b = true then (1 : Int) else 0)) := by cases b <;> rfl
theorem e_asInt (i : Int) : D.asInt (enc i) = W.pure i := rfl
theorem e_tr (b : Bool) : D.tr (enc b) = W.pure b := rfl
theorem e_truth (b : Bool) : D.truth (enc b) = W.pure b := rfl
theorem e_truthT (xs : List α) : D.truth (enc xs) = W.pure (!decide (xs = [])) := by cases xs <;> rfl
theorem e_truthL (xs : List α) : D.truth (enc (PL.mk xs)) = W.pure (!decide (xs = [])) := by cases xs <;> rfl
theorem e_truthI (i : Int) : D.truth (enc i) = W.pure (!decide (i = 0)) := by
  show W.pure (i != 0) = _
  congr 1
theorem e_inT (x : α) (xs : List α) (h : dep α + 1 ≤ 64) : D.in (enc x) (enc xs) = W.pure (enc (decide (x ∈ xs))) := D.in_tup x xs h
theorem e_inL (x : α) (xs : List α) (h : dep α + 1 ≤ 64) : D.in (enc x) (enc (PL.mk xs)) = W.pure (enc (decide (x ∈ xs))) := D.in_lst x xs h
theorem e_niT (x : α) (xs : List α) (h : dep α + 1 ≤ 64) : D.notIn (enc x) (enc xs) = W.pure (enc (!decide (x ∈ xs))) := D.notIn_tup x xs h
theorem e_niL (x : α) (xs : List α) (h : dep α + 1 ≤ 64) : D.notIn (enc x) (enc (PL.mk xs)) = W.pure (enc (!decide (x ∈ xs))) := D.notIn_lst x xs h
theorem e_inP (x : Int) (c : Int × Int) : D.in (enc x) (enc c) = W.pure (enc (decide (x = c.1) || decide (x = c.2))) := by
  have h := D.in_tup x [c.1, c.2] (by decide)
  rw [show D.in (enc x) (enc c) = D.in (enc x) (.tup ([c.1, c.2].map enc)) from rfl, h, eB]
  congr 2
  simp [Bool.decide_or]
theorem e_niP (x : Int) (c : Int × Int) : D.notIn (enc x) (enc c) = W.pure (enc (!(decide (x = c.1) || decide (x = c.2)))) := by
  have h := D.notIn_tup x [c.1, c.2] (by decide)
  rw [show D.notIn (enc x) (enc c) = D.notIn (enc x) (.tup ([c.1, c.2].map enc)) from rfl, h, eB]
  congr 2
  simp [Bool.decide_or]
theorem e_lenT (xs : List α) : D.len [enc xs] = W.pure (enc (xs.length : Int)) := by
  show W.pure (D.int ((xs.map enc).length : Int)) = _
  rw [List.length_map]
  rfl
theorem e_lenL (xs : List α) : D.len [enc (PL.mk xs)] = W.pure (enc (xs.length : Int)) := by
  show W.pure (D.int ((xs.map enc).length : Int)) = _
  rw [List.length_map]
  rfl
theorem e_lenM {δ : Type} (xs : List δ) (g : δ → D) : D.len [.lst (xs.map g)] = W.pure (enc (xs.length : Int)) := by
  show W.pure (D.int ((xs.map g).length : Int)) = _
  rw [List.length_map]
  rfl
theorem e_tupT (xs : List α) : D.tuple [enc xs] = W.pure (enc xs) := rfl
theorem e_tupL (xs : List α) : D.tuple [enc (PL.mk xs)] = W.pure (enc xs) := rfl
theorem e_lisT (xs : List α) : D.list [enc xs] = W.pure (enc (PL.mk xs)) := rfl
theorem e_lisL (xs : List α) : D.list [enc (PL.mk xs)] = W.pure (enc (PL.mk xs)) := rfl
theorem e_iterT (xs : List α) : D.iter (enc xs) = W.pure (xs.map enc) := rfl
theorem e_iterL (xs : List α) : D.iter (enc (PL.mk xs)) = W.pure (xs.map enc) := rfl
theorem e_ix0 (x : α × β) : D.ix (enc x) (enc (0 : Int)) = W.pure (enc x.1) := rfl
theorem e_ix1 (x : α × β) : D.ix (enc x) (enc (1 : Int)) = W.pure (enc x.2) := rfl
theorem e_tx0 (x : Tri α β γ) : D.ix (enc x) (enc (0 : Int)) = W.pure (enc x.a) := rfl
theorem e_tx1 (x : Tri α β γ) : D.ix (enc x) (enc (1 : Int)) = W.pure (enc x.b) := rfl
theorem e_tx2 (x : Tri α β γ) : D.ix (enc x) (enc (2 : Int)) = W.pure (enc x.c) := rfl
theorem e_ixT [Inhabited α] (xs : List α) (i : Int) (h0 : 0 ≤ i) (h : i < xs.length) : D.ix (enc xs) (enc i) = W.pure (enc (xs.getD i.toNat default)) := by
  show W.some? (atI (xs.map enc) i) = _
  rw [atI_nn _ h0, List.getElem?_map, List.getElem?_eq_getElem (by omega), List.getD_eq_getElem?_getD, List.getElem?_eq_getElem (by omega)]
  rfl
theorem e_ixL [Inhabited α] (xs : List α) (i : Int) (h0 : 0 ≤ i) (h : i < xs.length) : D.ix (enc (PL.mk xs)) (enc i) = W.pure (enc (xs.getD i.toNat default)) := by
  show W.some? (atI (xs.map enc) i) = _
  rw [atI_nn _ h0, List.getElem?_map, List.getElem?_eq_getElem (by omega), List.getD_eq_getElem?_getD, List.getElem?_eq_getElem (by omega)]
  rfl
theorem e_hdT [Inhabited α] (xs : List α) (h : xs ≠ []) : D.ix (enc xs) (enc (0 : Int)) = W.pure (enc (xs.headD default)) := by
  cases xs with
  | nil => exact absurd rfl h
  | cons x xs =>
    show W.some? (atI (enc x :: xs.map enc) 0) = _
    rw [atI_zero]
    rfl
theorem e_hdL [Inhabited α] (xs : List α) (h : xs ≠ []) : D.ix (enc (PL.mk xs)) (enc (0 : Int)) = W.pure (enc (xs.headD default)) := by
  cases xs with
  | nil => exact absurd rfl h
  | cons x xs =>
    show W.some? (atI (enc x :: xs.map enc) 0) = _
    rw [atI_zero]
    rfl
theorem e_sorL (xs : List α) (hz : xs.length ≤ 1000000) (h : dep α ≤ 64) : D.sorted [enc (PL.mk xs)] = W.pure (enc (PL.mk (csort xs))) := D.sorted_lst xs (size_le hz) h
theorem e_sorT (xs : List α) (hz : xs.length ≤ 1000000) (h : dep α ≤ 64) : D.sorted [enc xs] = W.pure (enc (PL.mk (csort xs))) := D.sorted_tup xs (size_le hz) h
def mnC [Inhabited α] (xs : List α) : α := minC (xs.headD default) xs.tail
theorem e_minL [Inhabited α] (xs : List α) (h : xs ≠ []) (hd : dep α ≤ 64) : D.min [enc (PL.mk xs)] = W.pure (enc (mnC xs)) := by
  cases xs with
  | nil => exact absurd rfl h
  | cons x xs => exact D.min_lst x xs hd
theorem e_minT [Inhabited α] (xs : List α) (h : xs ≠ []) (hd : dep α ≤ 64) : D.min [enc xs] = W.pure (enc (mnC xs)) := by
  cases xs with
  | nil => exact absurd rfl h
  | cons x xs => exact D.min_tup x xs hd
theorem mnC_mem [Inhabited α] {xs : List α} (h : xs ≠ []) : mnC xs ∈ xs := by
  cases xs with
  | nil => exact absurd rfl h
  | cons x xs => exact minC_mem x xs
theorem mnC_le [Inhabited α] {xs : List α} : ∀ y ∈ xs, cle (mnC xs) y = true := by
  cases xs with
  | nil => intro y hy; exact absurd hy List.not_mem_nil
  | cons x xs => exact minC_le x xs
theorem e_sumL (xs : List Int) : D.sum [enc (PL.mk xs)] = W.pure (enc xs.sum) := D.sum_lst xs
theorem e_sumT (xs : List Int) : D.sum [enc xs] = W.pure (enc xs.sum) := D.sum_tup xs
theorem e_allM {δ : Type} (xs : List δ) (f : δ → Bool) : D.all [enc (PL.mk (xs.map f))] = W.pure (enc (xs.all f)) := by
  rw [← eL]; exact D.all_map xs f
theorem e_anyM {δ : Type} (xs : List δ) (f : δ → Bool) : D.any [enc (PL.mk (xs.map f))] = W.pure (enc (xs.any f)) := by
  rw [show D.any [enc (PL.mk (xs.map f))] = D.any [D.lst ((xs.map f).map D.bl)] from rfl, D.any_bl, List.any_map]
  rfl
theorem e_allL (xs : List Bool) : D.all [enc (PL.mk xs)] = W.pure (enc (xs.all _root_.id)) := D.all_bl xs
theorem e_anyL (xs : List Bool) : D.any [enc (PL.mk xs)] = W.pure (enc (xs.any _root_.id)) := D.any_bl xs
theorem e_rng1 (j : Int) (h1 : -1000000 < j) (h2 : j < 1000000) : D.rng1 [enc j] = W.pure ((rngI 0 j).map enc) := D.rng1_int ⟨by omega, by omega⟩
theorem e_rng2 (i j : Int) (h1 : -1000000 < i) (h2 : i < 1000000) (h3 : -1000000 < j) (h4 : j < 1000000) (h5 : j - i < 1000000) : D.rng2 [enc i, enc j] = W.pure ((rngI i j).map enc) := D.rng2_int h1 h2 h3 h4 h5
theorem e_range1 (j : Int) (h1 : -1000000 < j) (h2 : j < 1000000) : D.list [.rng 0 j] = W.pure (enc (PL.mk (rngI 0 j))) := by
  show ((W.need (RgOk 0 j)).bind fun _ => W.pure (rngD 0 j)).bind (fun ds => W.pure (D.lst ds)) = _
  rw [rngD_I, W.need_bind (show RgOk 0 j from ⟨by omega, by omega, by omega, by omega, size_le (by omega)⟩)]
  rfl
theorem e_rgT (j : Int) (h1 : -1000000 < j) (h2 : j < 1000000) : D.tuple [.rng 0 j] = W.pure (enc (rngI 0 j)) := by
  show ((W.need (RgOk 0 j)).bind fun _ => W.pure (D.tup (rngD 0 j))) = _
  rw [rngD_I, W.need_bind (show RgOk 0 j from ⟨by omega, by omega, by omega, by omega, size_le (by omega)⟩)]
  rfl
theorem e_rg1 (j : Int) : D.range [enc j] = W.pure (.rng 0 j) := rfl
theorem e_rg2 (i j : Int) : D.range [enc i, enc j] = W.pure (.rng i j) := rfl
theorem e_addT (xs ys : List α) (h : xs.length + ys.length ≤ 1000000) : D.add (enc xs) (enc ys) = W.pure (enc (xs ++ ys)) := by
  show (W.need ((xs.map enc).length + (ys.map enc).length ≤ sizeLine)).bind (fun _ => W.pure (D.tup (xs.map enc ++ ys.map enc))) = _
  rw [W.need_bind (size_le (by rw [List.length_map, List.length_map]; exact h)), ← List.map_append]
  rfl
theorem e_addL (xs ys : List α) (h : xs.length + ys.length ≤ 1000000) : D.add (enc (PL.mk xs)) (enc (PL.mk ys)) = W.pure (enc (PL.mk (xs ++ ys))) := by
  show (W.need ((xs.map enc).length + (ys.map enc).length ≤ sizeLine)).bind (fun _ => W.pure (D.lst (xs.map enc ++ ys.map enc))) = _
  rw [W.need_bind (size_le (by rw [List.length_map, List.length_map]; exact h)), ← List.map_append]
  rfl
theorem e_slT (xs : List α) (lo hi : Option Int) : D.slice (enc xs) lo hi = W.pure (enc (cutL xs lo hi)) := by
  show W.pure (D.tup (cutL (xs.map enc) lo hi)) = _
  unfold cutL
  simp only [List.length_map, ← List.map_drop, ← List.map_take]
  rfl
theorem e_slL (xs : List α) (lo hi : Option Int) : D.slice (enc (PL.mk xs)) lo hi = W.pure (enc (PL.mk (cutL xs lo hi))) := by
  show W.pure (D.lst (cutL (xs.map enc) lo hi)) = _
  unfold cutL
  simp only [List.length_map, ← List.map_drop, ← List.map_take]
  rfl
theorem e_zip (xs : List α) (ys : List β) : D.zip [enc xs, enc ys] = W.pure ((xs.zip ys).map enc) := D.zip_tup xs ys
theorem e_enT (xs : List α) : D.enum [enc xs] = W.pure ((enumI xs).map enc) := D.enum_tup xs
theorem e_enL (xs : List α) : D.enum [enc (PL.mk xs)] = W.pure ((enumI xs).map enc) := D.enum_lst xs
theorem e_isT (xs : List α) : D.isi [enc xs, .ty "tuple"] = W.pure (enc true) := rfl
theorem e_isTb (xs : List α) : D.isi [enc xs, .ty "bool"] = W.pure (enc false) := rfl
theorem e_isIi (i : Int) : D.isi [enc i, .ty "int"] = W.pure (enc true) := rfl
theorem e_isIb (i : Int) : D.isi [enc i, .ty "bool"] = W.pure (enc false) := rfl
theorem e_isIt (i : Int) : D.isi [enc i, .ty "tuple"] = W.pure (enc false) := rfl
theorem e_isBi (i : Bool) : D.isi [enc i, .ty "int"] = W.pure (enc true) := rfl
theorem e_isBb (i : Bool) : D.isi [enc i, .ty "bool"] = W.pure (enc true) := rfl
theorem e_isBt (i : Bool) : D.isi [enc i, .ty "tuple"] = W.pure (enc false) := rfl
theorem ite_andE (p q : Bool) : (if p = true then W.pure (enc q : D) else W.pure (enc false)) = W.pure (enc (p && q)) := by cases p <;> rfl
theorem ite_orE (p q : Bool) : (if p = true then W.pure (enc true : D) else W.pure (enc q)) = W.pure (enc (p || q)) := by cases p <;> rfl
theorem map_id1 {δ : Type} (xs : List δ) : (xs.map fun x => x) = xs := List.map_id' xs
theorem fil_ne {δ : Type} (xs : List δ) (p : δ → Bool) : (!decide (xs.filter p = [])) = xs.any p := by
  rw [Bool.eq_iff_iff]; simp [List.filter_eq_nil_iff]
theorem fil_eq {δ : Type} (xs : List δ) (p : δ → Bool) : decide (xs.filter p = []) = !xs.any p := by
  rw [← fil_ne, Bool.not_not]
theorem map_nil {δ ε : Type} (xs : List δ) (g : δ → ε) [Decidable (xs.map g = [])] [Decidable (xs = [])] : decide (xs.map g = []) = decide (xs = []) := by
  rw [decide_eq_decide, List.map_eq_nil_iff]
/-! ### for loops -/
theorem for_fold {σ δ : Type} {t : Tgt} {b : Env → W Out} {e : δ → D} (st : σ → Env) (step : σ → δ → σ) : ∀ (xs : List δ) (s : σ), (∀ x ∈ xs, ∀ s, (t.set (e x) (st s)).bind b = W.pure (.nx (st (step s x)))) → forW t b (xs.map e) (st s) = W.pure (.nx (st (xs.foldl step s)))
  | [], s, _ => rfl
  | x :: xs, s, h => by
    rw [List.map_cons, forW, ← W.bind_assoc, h x List.mem_cons_self s]
    exact for_fold st step xs (step s x) fun y hy => h y (List.mem_cons_of_mem _ hy)
/-- with what is known of the state -/
theorem for_foldI {σ δ : Type} {t : Tgt} {b : Env → W Out} {e : δ → D} (st : σ → Env) (step : σ → δ → σ) (I : List δ → σ → Prop) (xs : List δ) (s : σ) (h0 : I [] s) (h : ∀ done x rest s, done ++ x :: rest = xs → I done s → (t.set (e x) (st s)).bind b = W.pure (.nx (st (step s x))) ∧ I (done ++ [x]) (step s x)) : forW t b (xs.map e) (st s) = W.pure (.nx (st (xs.foldl step s))) := by
  have key : ∀ (rest done : List δ) (s : σ), done ++ rest = xs → I done s → forW t b (rest.map e) (st s) = W.pure (.nx (st (rest.foldl step s))) := by
    intro rest
    induction rest with
    | nil => intro done s _ _; rfl
    | cons x rest ih =>
      intro done s e1 h1
      obtain ⟨e2, h2⟩ := h done x rest s e1 h1
      rw [List.map_cons, forW, ← W.bind_assoc, e2]
      exact ih (done ++ [x]) (step s x) (by rw [List.append_assoc]; exact e1) h2
  exact key xs [] s rfl h0
end
end PW

set_option Elab.async false
set_option linter.all false
set_option maxRecDepth 100000
set_option maxHeartbeats 1000000
namespace PW
open PySem PySem.Spec PyProof.Rows L2 Cod
/-! ### repr of small data -/
structure ShOk (d : PyData) (k : Nat) : Prop where
  ok : PyData.strOk d.shown = true
  len : d.shown.length ≤ k
  sh : d.showable = true
theorem strOk_app {x y : Str} (hx : PyData.strOk x = true) (hy : PyData.strOk y = true) : PyData.strOk (x ++ y) = true := by
  have e : (x ++ y).cps = x.cps ++ y.cps := rfl
  unfold PyData.strOk at *
  rw [e, Array.all_append, hx, hy]
  rfl
theorem join_ok : ∀ ts : List Str, (∀ t ∈ ts, PyData.strOk t = true) → PyData.strOk (Str.join ", " ts) = true
  | [], _ => by decide +kernel
  | [x], h => h x List.mem_cons_self
  | x :: y :: r, h => by
    have ih := join_ok (y :: r) fun t ht => h t (List.mem_cons_of_mem _ ht)
    show PyData.strOk (x ++ ", " ++ Str.join ", " (y :: r)) = true
    exact strOk_app (strOk_app (h x List.mem_cons_self) (by decide +kernel)) ih
theorem piled_le (ts : List Str) (k : Nat) (h : ∀ t ∈ ts, t.length ≤ k) : piled ts ≤ ts.length * (k + 2) := by
  unfold piled
  exact sum_le_mul ts _ (k + 2) fun t ht => by have := h t ht; omega
theorem tuple_ok {ts : List Str} {k : Nat} (h : ∀ t ∈ ts, PyData.strOk t = true ∧ t.length ≤ k) : PyData.strOk (tupleText ts) = true ∧ (tupleText ts).length ≤ 4 + ts.length * (k + 2) := by
  unfold tupleText
  constructor
  · refine strOk_app (strOk_app (by decide +kernel) (join_ok ts fun t ht => (h t ht).1)) ?_
    split <;> decide +kernel
  · rw [strLen_append, strLen_append]
    have h1 := piled_le ts k fun t ht => (h t ht).2
    have h2 : (Str.join ", " ts).length ≤ piled ts := by
      cases ts with
      | nil => decide +kernel
      | cons x xs => have := join_length_add (x :: xs) (by simp); omega
    have h3 : (("(" : String) : Str).length = 1 := rfl
    have h4 : ∀ b : Bool, ((if b = true then ",)" else ")" : String) : Str).length ≤ 2 := by decide +kernel
    have h5 := h4 (ts.length == 1)
    omega
theorem shAll_eq : ∀ ds : List PyData, PyData.shownAll ds = ds.map PyData.shown
  | [] => by simp [PyData.shownAll]
  | d :: ds => by rw [PyData.shownAll, shAll_eq ds]; rfl
theorem showAll_of : ∀ {ds : List PyData}, (∀ d ∈ ds, d.showable = true) → PyData.showableAll ds = true
  | [], _ => by simp [PyData.showableAll]
  | d :: ds, h => by rw [PyData.showableAll, h d List.mem_cons_self, showAll_of fun e he => h e (List.mem_cons_of_mem _ he)]; rfl
theorem sh_tuple {ds : List PyData} {k m : Nat} (h : ∀ d ∈ ds, ShOk d k) (hm : 4 + ds.length * (k + 2) ≤ m) : ShOk (.tuple ds) m := by
  have h1 : ∀ t ∈ ds.map PyData.shown, PyData.strOk t = true ∧ t.length ≤ k := fun t ht => by
    obtain ⟨d, hd, rfl⟩ := List.mem_map.mp ht
    exact ⟨(h d hd).ok, (h d hd).len⟩
  have h2 := tuple_ok h1
  rw [List.length_map] at h2
  refine ⟨?_, ?_, ?_⟩
  · rw [PyData.shown, shAll_eq]; exact h2.1
  · rw [PyData.shown, shAll_eq]; omega
  · rw [PyData.showable]; exact showAll_of fun d hd => (h d hd).sh
theorem sh_int {i : Int} (h0 : 0 ≤ i) (h1 : i < 40) : ShOk (.int i) 2 := by
  have h : ∀ n : Fin 40, PyData.strOk (toString (n.val : Int) : String) = true ∧ ((toString (n.val : Int) : String) : Str).length ≤ 2 ∧ decide ((n.val : Int).natAbs.log2 < 1920) = true := by decide +kernel
  obtain ⟨n, rfl⟩ : ∃ n : Nat, i = n := ⟨i.toNat, by omega⟩
  obtain ⟨a, b, c⟩ := h ⟨n, by omega⟩
  exact ⟨by rw [PyData.shown]; exact a, by rw [PyData.shown]; exact b, by rw [PyData.showable]; exact c⟩
theorem ShOk.mono {d : PyData} {k m : Nat} (h : ShOk d k) (hm : k ≤ m) : ShOk d m := ⟨h.ok, Nat.le_trans h.len hm, h.sh⟩
/-- repr of a table -/
theorem repr_table (n : Int) (ks : List (Int × Int)) (h0 : 0 ≤ n) (h1 : n < 40) (hl : ks.length ≤ 1000) (hk : ∀ c ∈ ks, (0 ≤ c.1 ∧ c.1 < 40) ∧ (0 ≤ c.2 ∧ c.2 < 40)) :
    ∃ r : OkS, D.repr [enc (n, ks)] = W.pure (.str r.s) := by
  have hc : ∀ c ∈ ks, ShOk (py c) 12 := fun c hc => by
    obtain ⟨h1, h2⟩ := hk c hc
    have e : (py c : PyData) = .tuple [.int c.1, .int c.2] := rfl
    rw [e]
    refine sh_tuple (k := 2) (fun d hd => ?_) (by simp)
    rcases List.mem_cons.mp hd with rfl | hd
    · exact sh_int h1.1 h1.2
    · rw [List.mem_singleton] at hd
      subst hd
      exact sh_int h2.1 h2.2
  have hks : ShOk (.tuple (ks.map py)) 14004 := sh_tuple (k := 12) (fun d hd => by
    obtain ⟨c, h, rfl⟩ := List.mem_map.mp hd
    exact hc c h) (by rw [List.length_map]; omega)
  have hs : ShOk (.tuple [.int n, .tuple (ks.map py)]) 28016 := sh_tuple (k := 14004) (fun d hd => by
    rcases List.mem_cons.mp hd with rfl | hd
    · exact (sh_int h0 h1).mono (by omega)
    · rw [List.mem_singleton] at hd
      subst hd
      exact hks) (by simp)
  have hp : (D.tup [enc n, enc ks]).py = some (.tuple [.int n, .tuple (ks.map py)]) := hpy (n, ks)
  have hl : (py (n, ks) : PyData).canLay0 = true := lay _
  have hd : (py (n, ks) : PyData).depth ≤ 3 := hdep (n, ks)
  refine ⟨⟨_, hs.ok⟩, ?_⟩
  show (W.some? (D.tup [enc n, enc ks]).py).bind _ = _
  rw [hp, W.some?_some, W.pure_bind, W.need_bind ⟨hs.sh, PyData.hasDict_of_canLay _ hl, Nat.le_trans hd (by decide +kernel), size_le (Nat.le_trans hs.len (by decide +kernel))⟩]
end PW

set_option Elab.async false
set_option linter.all false
set_option maxRecDepth 100000
set_option maxHeartbeats 1000000
/-! enumerate(zip(x, y)): the zip's tuple lies in the enumerate's -/
namespace PySem.W
open PySem PySem.Calls PyProof.Rows PyProof.V PySem.Spec
/-- a zip: what it says of the tuple that it gave -/
abbrev ZipR (h : Heap) (z TI TO : Addr) (f0 : Value) (f : Bool) : Prop :=
  h.get? z = some { cls := .type "zip", dict := none, data := .fields #[f0, .bool f, .bool false, .ref TI, .ref TO], slots := #[] }
section
variable {prog : Program} {w : World} {A : Around} {E : Value → Shared → Prop} {s : Shared} {z TI TO i1 i2 : Addr} {fp1 fp2 : List Addr} {n1 n2 i : Nat} {P1 P2 : Nat → Value → Prop} {St1 St2 : Nat → Heap → Prop} {f : Bool} {f0 : Value}
theorem pw_dead {a : Addr} {Q : Option Obj → Shared → Prop} (ho : s.heap.get? a = none) (h : Q none s) : wpAny (model prog w) A (loadIfAlive a) Q E s := by
  have h' : Q (s.heap.get? a) s := by rw [ho]; exact h
  exact fun _ _ _ => h'
/-- the tuple may be taken anew -/
def Free (h : Heap) (f0 : Value) : Prop := f0 = .none ∨ ∃ T : Nat, f0 = rawInt T ∧ h.get? T = none
theorem pw_free (hz : ZipR s.heap z TI TO f0 f) (hf : Free s.heap f0) {Q : Bool → Shared → Prop} (h : Q true s) : wpAny (model prog w) A (Builtin.SmallTypes.ownedTupleIsFree (.ref z)) Q E s := by
  unfold Builtin.SmallTypes.ownedTupleIsFree
  rcases hf with rfl | ⟨T, rfl, hT⟩
  · exact wpAny_bind (wpAny_field hz rfl (x := .none) rfl (wpAny_pure h))
  · refine wpAny_bind (wpAny_field hz rfl (x := rawInt T) rfl ?_)
    show wpAny _ _ (loadIfAlive ((T : Int).toNat) >>= _) _ _ _
    rw [Int.toNat_natCast]
    refine wpAny_bind (pw_dead hT ?_)
    simp only [Option.isNone_none, if_true]
    exact wpAny_pure h
theorem pw_zipH_item2 {Q : Value → Shared → Prop} (S : ZipSep2 z TI TO i1 i2 fp1 fp2) (D1 : Draws prog w A i1 fp1 n1 P1 St1) (D2 : Draws prog w A i2 fp2 n2 P2 St2)
    {T : Addr} {oT : Obj} (hz : IsZipHeld s.heap z TI TO T f) (hT : s.heap.get? T = some oT) (hTI : IsTupOf2 s.heap TI (.ref i1) (.ref i2)) (st1 : St1 i s.heap) (st2 : St2 i s.heap) (hlt1 : i < n1) (hlt2 : i < n2)
    (hQ : ∀ x1 x2 h' tk, P1 i x1 → P2 i x2 → IsZipHeld h' z TI TO T true → St1 (i + 1) h' → St2 (i + 1) h' → IsTupOf2 h' s.heap.objs.size x1 x2 → h'.objs.size = s.heap.objs.size + 1 →
      (∀ c o, c ≠ z → c ≠ i1 → c ≠ i2 → s.heap.get? c = some o → h'.get? c = some o) → Q (.ref s.heap.objs.size) { s with heap := h', toks := tk }) :
    wpAny (model prog w) A (Builtin.«zip.__next__» ⟨[.ref z], []⟩) (fun fin s' => ∃ v, fin = .done (.ret v) ∧ Q v s') E s := by
  obtain ⟨hp, g, d, tk0, os⟩ := s
  show wpAny _ _ (field (.ref z) 2 >>= _) _ _ _
  refine wpAny_bind (wpAny_field hz rfl (x := .bool false) rfl ?_)
  show wpAny _ _ (field (.ref z) 3 >>= _) _ _ _
  refine wpAny_bind (wpAny_field hz rfl (x := .ref TI) rfl ?_)
  refine wpAny_bind (wpAny_seqItems hTI rfl ?_)
  show wpAny _ _ (Builtin.SmallTypes.ownedTupleIsFree (.ref z) >>= _) _ _ _
  refine wpAny_bind (wpAny_tupleHeld_zip hz hT fun g0 hz0 hs0 => ?_)
  replace hs0 : Heap.SameBut z hp g0 := hs0
  simp only [Bool.false_eq_true, if_false]
  refine wpAny_bind ?_
  rw [← Array.forIn_toList]
  simp only [List.forIn_cons, List.forIn_nil]
  refine wpAny_bind (wpAny_bind (wpAny_holding ?_))
  show wpAny _ _ (Builtin.SmallTypes.nextOf (.ref i1) >>= _) _ _ ⟨g0, g, d, tk0, os⟩
  refine wpAny_bind (D1.item i _ _ _ hlt1 (D1.over st1 hs0 S.zf1) fun x1 p1 tk1 hx1 sn1 hp1 => wpAny_pure ?_)
  replace hp1 : Heap.SameBut i1 g0 p1 := hp1
  refine wpAny_pure ?_
  refine wpAny_bind (wpAny_bind (wpAny_holding ?_))
  show wpAny _ _ (Builtin.SmallTypes.nextOf (.ref i2) >>= _) _ _ ⟨p1, g, d, tk1, os⟩
  refine wpAny_bind (D2.item i _ _ _ hlt2 (D2.over (D2.over st2 hs0 S.zf2) hp1 S.sep1_2) fun x2 p2 tk2 hx2 sn2 hp2 => wpAny_pure ?_)
  replace hp2 : Heap.SameBut i2 p1 p2 := hp2
  refine wpAny_pure (wpAny_pure ?_)
  show wpAny _ _ (newTuple [x1, x2] >>= _) _ _ ⟨p2, g, d, tk2, os⟩
  refine wpAny_bind (wpAny_newTuple ?_)
  have hsz : p2.objs.size = hp.objs.size := by rw [hp2.1, hp1.1, hs0.1]
  have hzz : IsZipHeld p2 z TI TO T true := hp2.extBut _ _ S.zi2 (hp1.extBut _ _ S.zi1 hz0)
  have hk : ∀ c o, c ≠ z → c ≠ i1 → c ≠ i2 → hp.get? c = some o → p2.get? c = some o := fun c o c1 c2 c3 e => hp2.extBut _ _ c3 (hp1.extBut _ _ c2 (hs0.extBut _ _ c1 e))
  have hj1 : St1 (i + 1) p2 := D1.over sn1 hp2 S.sep2_1
  refine wpAny_pure ⟨_, rfl, ?_⟩
  show Q (.ref p2.objs.size) ⟨p2.push { cls := .type "tuple", data := .seq #[x1, x2] }, g, d, tk2, os⟩
  have hpp : IsTupOf2 (p2.push { cls := .type "tuple", data := .seq #[x1, x2] }) p2.objs.size x1 x2 := Heap.get?_push_size _ rfl
  have up : ∀ c o, p2.get? c = some o → (p2.push { cls := .type "tuple", data := .seq #[x1, x2] }).get? c = some o := fun c o e => Heap.get?_push_of_some _ e
  rw [hsz] at hpp ⊢
  exact hQ x1 x2 _ tk2 hx1 hx2 (up _ _ hzz) (D1.frame _ _ _ hj1 fun b _ o e => up b o e) (D2.frame _ _ _ sn2 fun b _ o e => up b o e) hpp (by rw [Heap.size_push, hsz]) fun c o c1 c2 c3 e => up _ _ (hk c o c1 c2 c3 e)
theorem pw_zipF_item {a1 a2 : Value} {Q : Value → Shared → Prop} (S : ZipSep2 z TI TO i1 i2 fp1 fp2) (D1 : Draws prog w A i1 fp1 n1 P1 St1) (D2 : Draws prog w A i2 fp2 n2 P2 St2)
    (hz : ZipR s.heap z TI TO f0 f) (hf : Free s.heap f0) (hTI : IsTupOf2 s.heap TI (.ref i1) (.ref i2)) (hTO : IsTupOf2 s.heap TO a1 a2) (st1 : St1 i s.heap) (st2 : St2 i s.heap) (hlt1 : i < n1) (hlt2 : i < n2)
    (hQ : ∀ x1 x2 h' tk, P1 i x1 → P2 i x2 → ZipR h' z TI TO (rawInt s.heap.objs.size) false → IsTupOf2 h' TO x1 x2 → St1 (i + 1) h' → St2 (i + 1) h' → IsTupOf2 h' s.heap.objs.size x1 x2 → h'.objs.size = s.heap.objs.size + 1 →
      (∀ c o, c ≠ z → c ≠ TO → c ≠ i1 → c ≠ i2 → s.heap.get? c = some o → h'.get? c = some o) → Q (.ref s.heap.objs.size) { s with heap := h', toks := tk }) :
    wpAny (model prog w) A (Builtin.«zip.__next__» ⟨[.ref z], []⟩) (fun fin s' => ∃ v, fin = .done (.ret v) ∧ Q v s') E s := by
  obtain ⟨hp, gs, dr, t0, os⟩ := s
  show wpAny _ _ (field (.ref z) 2 >>= _) _ _ _
  refine wpAny_bind (wpAny_field hz rfl (x := .bool false) rfl ?_)
  show wpAny _ _ (field (.ref z) 3 >>= _) _ _ _
  refine wpAny_bind (wpAny_field hz rfl (x := .ref TI) rfl ?_)
  refine wpAny_bind (wpAny_seqItems hTI rfl ?_)
  show wpAny _ _ (Builtin.SmallTypes.ownedTupleIsFree (.ref z) >>= _) _ _ _
  refine wpAny_bind (pw_free hz hf ?_)
  rw [if_pos rfl]
  refine wpAny_bind (wpAny_rule ?_)
  refine wpAny_bind (wpAny_field hz rfl (x := .ref TO) rfl ?_)
  refine wpAny_bind (wpAny_setField_rec hz (by simp) fun b0 k0 e0 => ?_)
  have q0 : ZipR b0 z TI TO .ellipsis f := k0
  have m0 : Heap.SameBut z hp b0 := e0
  refine wpAny_bind ?_
  simp only [List.zipIdx_cons, List.zipIdx_nil, List.forIn_cons, List.forIn_nil]
  refine wpAny_bind (wpAny_bind (wpAny_onRaise ?_))
  show wpAny _ _ (Builtin.SmallTypes.nextOf (.ref i1) >>= _) _ _ ⟨b0, gs, dr, t0, os⟩
  refine wpAny_bind (D1.item i _ _ _ hlt1 (D1.over st1 m0 S.zf1) fun x1 b1 t1 p1 s1 e1 => wpAny_pure ?_)
  have m1 : Heap.SameBut i1 b0 b1 := e1
  have o1 : IsTupOf2 b1 TO a1 a2 := m1.extBut _ _ S.Ti1 (m0.extBut _ _ S.TOz hTO)
  refine wpAny_bind (wpAny_seqItems (s := ⟨b1, gs, dr, t1, os⟩) o1 rfl ?_)
  refine wpAny_bind (updateSeq_IsTupOf2 (s := ⟨b1, gs, dr, t1, os⟩) o1 fun b2 k2 e2 => ?_)
  have o2 : IsTupOf2 b2 TO x1 a2 := k2
  have m2 : Heap.SameBut TO b1 b2 := e2
  refine wpAny_bind (wpAny_letGo (wpAny_pure ?_))
  refine wpAny_bind (wpAny_bind (wpAny_onRaise ?_))
  show wpAny _ _ (Builtin.SmallTypes.nextOf (.ref i2) >>= _) _ _ ⟨b2, gs, dr, t1, os⟩
  refine wpAny_bind (D2.item i _ _ _ hlt2 (D2.over (D2.over (D2.over st2 m0 S.zf2) m1 S.sep1_2) m2 S.Tf2) fun x2 b3 t3 p2 s2 e3 => wpAny_pure ?_)
  have m3 : Heap.SameBut i2 b2 b3 := e3
  have o3 : IsTupOf2 b3 TO x1 a2 := m3.extBut _ _ S.Ti2 o2
  refine wpAny_bind (wpAny_seqItems (s := ⟨b3, gs, dr, t3, os⟩) o3 rfl ?_)
  refine wpAny_bind (updateSeq_IsTupOf2 (s := ⟨b3, gs, dr, t3, os⟩) o3 fun b4 k4 e4 => ?_)
  have o4 : IsTupOf2 b4 TO x1 x2 := k4
  have m4 : Heap.SameBut TO b3 b4 := e4
  refine wpAny_bind (wpAny_letGo (wpAny_pure (wpAny_pure ?_)))
  refine wpAny_bind (wpAny_seqItems (s := ⟨b4, gs, dr, t3, os⟩) o4 rfl ?_)
  refine wpAny_bind (wpAny_newTuple ?_)
  have sz : b4.objs.size = hp.objs.size := by rw [m4.1, m3.1, m2.1, m1.1, m0.1]
  have q4 : ZipR b4 z TI TO .ellipsis f := m4.extBut _ _ S.TOz.symm (m3.extBut _ _ S.zi2 (m2.extBut _ _ S.TOz.symm (m1.extBut _ _ S.zi1 q0)))
  have fr : ∀ c o, c ≠ z → c ≠ TO → c ≠ i1 → c ≠ i2 → hp.get? c = some o → b4.get? c = some o := fun c o cz cT c1 c2 e =>
    m4.extBut _ _ cT (m3.extBut _ _ c2 (m2.extBut _ _ cT (m1.extBut _ _ c1 (m0.extBut _ _ cz e))))
  have r1 : St1 (i + 1) b4 := D1.over (D1.over (D1.over s1 m2 S.Tf1) m3 S.sep2_1) m4 S.Tf1
  have r2 : St2 (i + 1) b4 := D2.over s2 m4 S.Tf2
  have zlt : z < b4.objs.size := Heap.lt_size q4
  show wpAny _ _ (Builtin.SmallTypes.ownedTupleHandOut (.ref z) (.ref b4.objs.size) >>= _) _ _ ⟨b4.push { cls := .type "tuple", data := .seq #[x1, x2] }, gs, dr, t3, os⟩
  refine wpAny_bind ?_
  unfold Builtin.SmallTypes.ownedTupleHandOut
  have q5 : ZipR (b4.push { cls := .type "tuple", data := .seq #[x1, x2] }) z TI TO .ellipsis f := Heap.get?_push_of_some _ q4
  refine wpAny_bind (wpAny_setField_rec q5 (by simp) fun b6 k6 e6 => ?_)
  have q6 : ZipR b6 z TI TO (rawInt b4.objs.size) f := k6
  have m6 : Heap.SameBut z (b4.push { cls := .type "tuple", data := .seq #[x1, x2] }) b6 := e6
  refine wpAny_setField_rec q6 (by simp) fun b7 k7 e7 => ?_
  have q7 : ZipR b7 z TI TO (rawInt b4.objs.size) false := k7
  have m7 : Heap.SameBut z b6 b7 := e7
  have up : ∀ c o, c ≠ z → b4.get? c = some o → b7.get? c = some o := fun c o cz e => m7.extBut _ _ cz (m6.extBut _ _ cz (Heap.get?_push_of_some _ e))
  have nw : IsTupOf2 b7 b4.objs.size x1 x2 := m7.extBut _ _ (Nat.ne_of_gt zlt) (m6.extBut _ _ (Nat.ne_of_gt zlt) (Heap.get?_push_size _ rfl))
  have sz7 : b7.objs.size = b4.objs.size + 1 := by rw [m7.1, m6.1, Heap.size_push]
  refine wpAny_pure ⟨_, rfl, ?_⟩
  show Q (.ref b4.objs.size) ⟨b7, gs, dr, t3, os⟩
  rw [sz] at q7 nw sz7 ⊢
  exact hQ x1 x2 b7 t3 p1 p2 q7 (up _ _ S.TOz o4) (D1.frame _ _ _ r1 fun b hb o e => up b o (fun q => S.zf1 (q ▸ hb)) e) (D2.frame _ _ _ r2 fun b hb o e => up b o (fun q => S.zf2 (q ▸ hb)) e) nw sz7 fun c o cz cT c1 c2 e => up c o cz (fr c o cz cT c1 c2 e)
theorem pw_zipF_end {a1 a2 : Value} {Q : Fin → Shared → Prop} (S : ZipSep2 z TI TO i1 i2 fp1 fp2) (D1 : Draws prog w A i1 fp1 n1 P1 St1) (D2 : Draws prog w A i2 fp2 n2 P2 St2)
    (hz : ZipR s.heap z TI TO f0 f) (hf : Free s.heap f0) (hTI : IsTupOf2 s.heap TI (.ref i1) (.ref i2)) (hTO : IsTupOf2 s.heap TO a1 a2) (st1 : St1 i s.heap) (st2 : St2 i s.heap) (hle1 : i ≤ n1) (hle2 : i ≤ n2) (hend : i = n1 ∨ i = n2)
    (hE : ∀ h' tk e, (∀ c o, c ≠ z → c ≠ TO → c ≠ i1 → c ≠ i2 → s.heap.get? c = some o → h'.get? c = some o) → (∃ o, h'.get? e = some o ∧ o.cls = .type "StopIteration") → E (.ref e) { s with heap := h', toks := tk }) :
    wpAny (model prog w) A (Builtin.«zip.__next__» ⟨[.ref z], []⟩) Q E s := by
  obtain ⟨hp, gs, dr, t0, os⟩ := s
  show wpAny _ _ (field (.ref z) 2 >>= _) _ _ _
  refine wpAny_bind (wpAny_field hz rfl (x := .bool false) rfl ?_)
  show wpAny _ _ (field (.ref z) 3 >>= _) _ _ _
  refine wpAny_bind (wpAny_field hz rfl (x := .ref TI) rfl ?_)
  refine wpAny_bind (wpAny_seqItems hTI rfl ?_)
  show wpAny _ _ (Builtin.SmallTypes.ownedTupleIsFree (.ref z) >>= _) _ _ _
  refine wpAny_bind (pw_free hz hf ?_)
  rw [if_pos rfl]
  refine wpAny_bind (wpAny_rule ?_)
  refine wpAny_bind (wpAny_field hz rfl (x := .ref TO) rfl ?_)
  refine wpAny_bind (wpAny_setField_rec hz (by simp) fun b0 k0 e0 => ?_)
  have q0 : ZipR b0 z TI TO .ellipsis f := k0
  have m0 : Heap.SameBut z hp b0 := e0
  refine wpAny_bind ?_
  simp only [List.zipIdx_cons, List.zipIdx_nil, List.forIn_cons, List.forIn_nil]
  refine wpAny_bind (wpAny_bind (wpAny_onRaise ?_))
  show wpAny _ _ (Builtin.SmallTypes.nextOf (.ref i1) >>= _) _ _ ⟨b0, gs, dr, t0, os⟩
  -- behind the stop: the note is wiped
  have wipe : ∀ {b : Heap} {tk : Nat} {e : Addr} {ob : Obj}, ZipR b z TI TO .ellipsis f → b.get? e = some ob → ob.cls = .type "StopIteration" → (∀ c o, c ≠ z → c ≠ TO → c ≠ i1 → c ≠ i2 → hp.get? c = some o → b.get? c = some o) →
      wpAny (model prog w) A (setField (.ref z) 0 .none) (fun _ s' => E (.ref e) s') E ⟨b, gs, dr, tk, os⟩ := fun {b tk e ob} zb ho hc hk => by
    have ne : e ≠ z := fun q => by subst q; rw [zb] at ho; cases ho; simp at hc
    refine wpAny_setField_rec (s := ⟨b, gs, dr, tk, os⟩) zb (by simp) fun b' _ e' => ?_
    have m' : Heap.SameBut z b b' := e'
    exact hE b' tk e (fun c o cz cT c1 c2 x => m'.extBut _ _ cz (hk c o cz cT c1 c2 x)) ⟨ob, m'.extBut _ _ ne ho, hc⟩
  by_cases hlt1 : i < n1
  · refine wpAny_bind (D1.item i _ _ _ hlt1 (D1.over st1 m0 S.zf1) fun x1 b1 t1 p1 s1 e1 => wpAny_pure ?_)
    have m1 : Heap.SameBut i1 b0 b1 := e1
    have o1 : IsTupOf2 b1 TO a1 a2 := m1.extBut _ _ S.Ti1 (m0.extBut _ _ S.TOz hTO)
    refine wpAny_bind (wpAny_seqItems (s := ⟨b1, gs, dr, t1, os⟩) o1 rfl ?_)
    refine wpAny_bind (updateSeq_IsTupOf2 (s := ⟨b1, gs, dr, t1, os⟩) o1 fun b2 k2 e2 => ?_)
    have m2 : Heap.SameBut TO b1 b2 := e2
    refine wpAny_bind (wpAny_letGo (wpAny_pure ?_))
    have hi2 : i = n2 := by omega
    refine wpAny_bind (wpAny_bind (wpAny_onRaise ?_))
    show wpAny _ _ (Builtin.SmallTypes.nextOf (.ref i2) >>= _) _ _ ⟨b2, gs, dr, t1, os⟩
    refine wpAny_bind (D2.done ⟨b2, gs, dr, t1, os⟩ _ _ (by rw [← hi2]; exact D2.over (D2.over (D2.over st2 m0 S.zf2) m1 S.sep1_2) m2 S.Tf2) fun b3 e hb he => ?_)
    have m3 : Heap.ExtBut i2 b2 b3 := hb
    obtain ⟨ob, ho, hc⟩ := he
    exact wipe (m3 _ _ S.zi2 (m2.extBut _ _ S.TOz.symm (m1.extBut _ _ S.zi1 q0))) ho hc fun c o cz cT c1 c2 x => m3 _ _ c2 (m2.extBut _ _ cT (m1.extBut _ _ c1 (m0.extBut _ _ cz x)))
  · have hi1 : i = n1 := by omega
    refine wpAny_bind (D1.done ⟨b0, gs, dr, t0, os⟩ _ _ (by rw [← hi1]; exact D1.over st1 m0 S.zf1) fun b3 e hb he => ?_)
    have m3 : Heap.ExtBut i1 b0 b3 := hb
    obtain ⟨ob, ho, hc⟩ := he
    exact wipe (m3 _ _ S.zi1 q0) ho hc fun c o cz cT c1 c2 x => m3 _ _ c1 (m0.extBut _ _ cz x)
/-- the zip at turn i, whatever became of the tuples it gave -/
structure ZE (S : ZipSep2 z TI TO i1 i2 fp1 fp2) (St1 St2 : Nat → Heap → Prop) (i : Nat) (h : Heap) : Prop where
  ti : IsTupOf2 h TI (.ref i1) (.ref i2)
  to : ∃ a b, IsTupOf2 h TO a b
  s1 : St1 i h
  s2 : St2 i h
  z : ∃ f0 f, ZipR h z TI TO f0 f ∧ (f0 = .none ∨ ∃ T : Nat, f0 = rawInt T)
theorem ZE.frame {S : ZipSep2 z TI TO i1 i2 fp1 fp2} (D1 : Draws prog w A i1 fp1 n1 P1 St1) (D2 : Draws prog w A i2 fp2 n2 P2 St2) {h h' : Heap} (x : ZE S St1 St2 i h)
    (k : ∀ b, b ∈ [z, TI, TO] ++ fp1 ++ fp2 → ∀ o, h.get? b = some o → h'.get? b = some o) : ZE S St1 St2 i h' := by
  obtain ⟨a, b, e⟩ := x.to
  obtain ⟨f0, f, e2, r⟩ := x.z
  exact ⟨k TI (by simp) _ x.ti, ⟨a, b, k TO (by simp) _ e⟩, D1.frame _ _ _ x.s1 fun b hb o e => k b (by simp [hb]) o e, D2.frame _ _ _ x.s2 fun b hb o e => k b (by simp [hb]) o e, f0, f, k z (by simp) _ e2, r⟩
theorem ze_item {Q : Value → Shared → Prop} (S : ZipSep2 z TI TO i1 i2 fp1 fp2) (D1 : Draws prog w A.in1 i1 fp1 n1 P1 St1) (D2 : Draws prog w A.in1 i2 fp2 n2 P2 St2) (x : ZE S St1 St2 i s.heap) (hlt1 : i < n1) (hlt2 : i < n2)
    (hQ : ∀ x1 x2 h' tk, P1 i x1 → P2 i x2 → ZE S St1 St2 (i + 1) h' → IsTupOf2 h' s.heap.objs.size x1 x2 → h'.objs.size = s.heap.objs.size + 1 → (∀ c o, c ≠ z → c ≠ TO → c ≠ i1 → c ≠ i2 → s.heap.get? c = some o → h'.get? c = some o) → Q (.ref s.heap.objs.size) { s with heap := h', toks := tk }) :
    wpAny (model prog w) A (Builtin.SmallTypes.nextOf (.ref z)) Q E s := by
  obtain ⟨f0, f, hz, hf⟩ := x.z
  obtain ⟨a, b, hTO⟩ := x.to
  have hTy : s.TypeIs (.ref z) "zip" := ⟨_, hz, rfl⟩
  unfold Builtin.SmallTypes.nextOf
  refine wpAny_bind (wpAny_callSpecial?_slot (name := Str.ofString "__next__") hTy F.slot_zip_next
    (wpAny_call_entry F.slot_zip_next hTy F.entry_zip_next ?_ (F.args_zip_next_1 _)))
  have go : Free s.heap f0 → wpAny (model prog w) A.in1 (Builtin.«zip.__next__» ⟨[.ref z], []⟩) (fun fin s' => ∃ v, fin = .done (.ret v) ∧ wpAny (model prog w) A (pure v) Q E s') E s := fun hf => by
    refine pw_zipF_item S D1 D2 hz hf x.ti hTO x.s1 x.s2 hlt1 hlt2 fun x1 x2 h' tk p1 p2 z' to' s1' s2' nw sz fr => wpAny_pure ?_
    exact hQ x1 x2 h' tk p1 p2 ⟨fr _ _ S.TIz S.TITO S.TIi1 S.TIi2 x.ti, ⟨_, _, to'⟩, s1', s2', _, _, z', .inr ⟨_, rfl⟩⟩ nw sz fr
  rcases hf with rfl | ⟨T, rfl⟩
  · exact go (.inl rfl)
  · cases hT : s.heap.get? T with
    | none => exact go (.inr ⟨T, rfl, hT⟩)
    | some oT =>
      refine pw_zipH_item2 S D1 D2 hz hT x.ti x.s1 x.s2 hlt1 hlt2 fun x1 x2 h' tk p1 p2 z' s1' s2' nw sz fr => wpAny_pure ?_
      exact hQ x1 x2 h' tk p1 p2 ⟨fr _ _ S.TIz S.TIi1 S.TIi2 x.ti, ⟨_, _, fr _ _ S.TOz S.Ti1 S.Ti2 hTO⟩, s1', s2', _, _, z', .inr ⟨_, rfl⟩⟩ nw sz fun c o c1 _ c3 c4 e => fr c o c1 c3 c4 e
theorem ze_end {Q : Value → Shared → Prop} (S : ZipSep2 z TI TO i1 i2 fp1 fp2) (D1 : Draws prog w A.in1 i1 fp1 n1 P1 St1) (D2 : Draws prog w A.in1 i2 fp2 n2 P2 St2) (x : ZE S St1 St2 i s.heap) (hle1 : i ≤ n1) (hle2 : i ≤ n2) (hend : i = n1 ∨ i = n2)
    (hE : ∀ h' tk e, (∀ c o, c ≠ z → c ≠ TO → c ≠ i1 → c ≠ i2 → s.heap.get? c = some o → h'.get? c = some o) → (∃ o, h'.get? e = some o ∧ o.cls = .type "StopIteration") → E (.ref e) { s with heap := h', toks := tk }) :
    wpAny (model prog w) A (Builtin.SmallTypes.nextOf (.ref z)) Q E s := by
  obtain ⟨f0, f, hz, hf⟩ := x.z
  obtain ⟨a, b, hTO⟩ := x.to
  have hTy : s.TypeIs (.ref z) "zip" := ⟨_, hz, rfl⟩
  unfold Builtin.SmallTypes.nextOf
  refine wpAny_bind (wpAny_callSpecial?_slot (name := Str.ofString "__next__") hTy F.slot_zip_next
    (wpAny_call_entry F.slot_zip_next hTy F.entry_zip_next ?_ (F.args_zip_next_1 _)))
  have go : Free s.heap f0 → wpAny (model prog w) A.in1 (Builtin.«zip.__next__» ⟨[.ref z], []⟩) (fun fin s' => ∃ v, fin = .done (.ret v) ∧ wpAny (model prog w) A (pure v) Q E s') E s := fun hf => pw_zipF_end S D1 D2 hz hf x.ti hTO x.s1 x.s2 hle1 hle2 hend hE
  rcases hf with rfl | ⟨T, rfl⟩
  · exact go (.inl rfl)
  · cases hT : s.heap.get? T with
    | none => exact go (.inr ⟨T, rfl, hT⟩)
    | some oT => exact pw_zipH_end S D1 D2 hz hT x.ti x.s1 x.s2 hle1 hle2 hend fun h' tk e hk he => hE h' tk e (fun c o c1 _ c3 c4 y => hk c o c1 c3 c4 y) he
/-! enumerate over it -/
theorem ez_item {e : Addr} {old : Value} {Q : Option Value → Shared → Prop} (S : ZipSep2 z TI TO i1 i2 fp1 fp2) (D1 : Draws prog w A.in1.in1 i1 fp1 n1 P1 St1) (D2 : Draws prog w A.in1.in1 i2 fp2 n2 P2 St2) (he : IsEnum s.heap e z i old) (x : ZE S St1 St2 i s.heap) (hlt1 : i < n1) (hlt2 : i < n2) (hef : e ∉ [z, TI, TO] ++ fp1 ++ fp2)
    (hQ : ∀ x1 x2 h' tk, P1 i x1 → P2 i x2 → IsEnumOut h' e z ((i : Int) + 1) (.ref s.heap.objs.size) (s.heap.objs.size + 1) → ZE S St1 St2 (i + 1) h' → IsTupOf2 h' s.heap.objs.size x1 x2 →
      h'.get? (s.heap.objs.size + 1) = some { cls := .type "tuple", data := .seq #[.int i tk, .ref s.heap.objs.size] } → (∀ c o, c ≠ e → c ≠ z → c ≠ TO → c ≠ i1 → c ≠ i2 → s.heap.get? c = some o → h'.get? c = some o) → Q (some (.ref (s.heap.objs.size + 1))) { s with heap := h', toks := tk + 1 }) :
    wpAny (model prog w) A (pyNext (.ref e)) Q E s := by
  have hT : s.TypeIs (.ref e) "enumerate" := ⟨_, he, rfl⟩
  have nz : e ≠ z := fun q => hef (by simp [q])
  have nTO : e ≠ TO := fun q => hef (by simp [q])
  have n1' : e ≠ i1 := fun q => hef (by simp [q, S.mem1])
  have n2' : e ≠ i2 := fun q => hef (by simp [q, S.mem2])
  have hel : e < s.heap.objs.size := Heap.lt_size he
  unfold pyNext
  refine wpAny_bind (wpAny_attempt (wpAny_callSpecial?_slot (name := Str.ofString "__next__") hT F.slot_enumerate_next
    (wpAny_call_entry F.slot_enumerate_next hT F.entry_enumerate_next ?_ (F.args_enumerate_next_1 _))))
  obtain ⟨hp, gs, dr, t0, os⟩ := s
  show wpAny _ _ (field (.ref e) 2 >>= _) _ _ _
  refine wpAny_bind (wpAny_field he rfl (x := .ref z) rfl ?_)
  refine wpAny_bind (ze_item S D1 D2 x hlt1 hlt2 fun x1 x2 b1 t1 p1 p2 z1 nw1 sz1 fr1 => ?_)
  have he1 : IsEnum b1 e z i old := fr1 _ _ nz nTO n1' n2' he
  show wpAny _ _ (field (.ref e) 3 >>= _) _ _ ⟨b1, gs, dr, t1, os⟩
  refine wpAny_bind (wpAny_field he1 rfl (x := rawInt i) rfl ?_)
  show wpAny _ _ (field (.ref e) 4 >>= _) _ _ ⟨b1, gs, dr, t1, os⟩
  refine wpAny_bind (wpAny_field he1 rfl (x := .none) rfl ?_)
  show wpAny _ _ (mkInt i >>= _) _ _ ⟨b1, gs, dr, t1, os⟩
  refine wpAny_bind (wpAny_mkInt ?_)
  show wpAny _ _ (setField (.ref e) 3 (rawInt ((i : Int) + 1)) >>= _) _ _ ⟨b1, gs, dr, t1 + 1, os⟩
  refine wpAny_bind (wpAny_setField_rec he1 (by simp) fun b2 k2 e2 => ?_)
  have he2 : IsEnum b2 e z ((i : Int) + 1) old := k2
  have m2 : Heap.SameBut e b1 b2 := e2
  show wpAny _ _ (setField (.ref e) 4 .none >>= _) _ _ ⟨b2, gs, dr, t1 + 1, os⟩
  refine wpAny_bind (wpAny_setField_rec he2 (by simp) fun b3 k3 e3 => ?_)
  have he3 : IsEnum b3 e z ((i : Int) + 1) old := k3
  have m3 : Heap.SameBut e b2 b3 := e3
  show wpAny _ _ (newTuple [.int i t1, .ref hp.objs.size] >>= _) _ _ ⟨b3, gs, dr, t1 + 1, os⟩
  refine wpAny_bind (wpAny_newTuple ?_)
  have sz3 : b3.objs.size = hp.objs.size + 1 := by rw [m3.1, m2.1]; exact sz1
  have he4 : IsEnum (b3.push { cls := .type "tuple", data := .seq #[.int i t1, .ref hp.objs.size] }) e z ((i : Int) + 1) old := Heap.get?_push_of_some _ he3
  have nw4 : (b3.push { cls := .type "tuple", data := .seq #[.int i t1, .ref hp.objs.size] }).get? (hp.objs.size + 1) = some { cls := .type "tuple", data := .seq #[.int i t1, .ref hp.objs.size] } := by rw [← sz3]; exact Heap.get?_push_size _ rfl
  have up4 : ∀ c o, c ≠ e → b1.get? c = some o → (b3.push { cls := .type "tuple", data := .seq #[.int i t1, .ref hp.objs.size] }).get? c = some o := fun c o ce q => Heap.get?_push_of_some _ (m3.extBut _ _ ce (m2.extBut _ _ ce q))
  generalize b3.push { cls := .type "tuple", data := .seq #[.int i t1, .ref hp.objs.size] } = b4 at he4 nw4 up4
  show wpAny _ _ (Builtin.SmallTypes.ownedTupleIsFree (.ref e) >>= _) _ _ ⟨b4, gs, dr, t1 + 1, os⟩
  rw [sz3]
  refine wpAny_bind ?_
  unfold Builtin.SmallTypes.ownedTupleIsFree
  refine wpAny_bind (wpAny_field he4 rfl (x := .none) rfl (wpAny_pure ?_))
  simp only [if_true]
  refine wpAny_bind (wpAny_rule ?_)
  refine wpAny_bind (wpAny_field he4 rfl (x := old) rfl ?_)
  refine wpAny_bind (wpAny_setField_rec he4 (by simp) fun b5 k5 e5 => ?_)
  have he5 : IsEnum b5 e z ((i : Int) + 1) (.ref hp.objs.size) := k5
  have m5 : Heap.SameBut e b4 b5 := e5
  show wpAny _ _ (Builtin.SmallTypes.ownedTupleHandOut (.ref e) (.ref (hp.objs.size + 1)) >>= _) _ _ ⟨b5, gs, dr, t1 + 1, os⟩
  refine wpAny_bind ?_
  unfold Builtin.SmallTypes.ownedTupleHandOut
  refine wpAny_bind (wpAny_setField_rec he5 (by simp) fun b6 k6 e6 => ?_)
  have he6 : IsEnumOut b6 e z ((i : Int) + 1) (.ref hp.objs.size) (hp.objs.size + 1) := k6
  have m6 : Heap.SameBut e b5 b6 := e6
  refine wpAny_setField_rec he6 (by simp) fun b7 k7 e7 => ?_
  have he7 : IsEnumOut b7 e z ((i : Int) + 1) (.ref hp.objs.size) (hp.objs.size + 1) := k7
  have m7 : Heap.SameBut e b6 b7 := e7
  have up : ∀ c o, c ≠ e → b1.get? c = some o → b7.get? c = some o := fun c o ce q => m7.extBut _ _ ce (m6.extBut _ _ ce (m5.extBut _ _ ce (up4 c o ce q)))
  have ne1 : hp.objs.size + 1 ≠ e := Nat.ne_of_gt (Nat.lt_succ_of_lt hel)
  refine wpAny_bind (wpAny_letGo (wpAny_pure ⟨_, rfl, wpAny_pure ?_⟩))
  exact hQ x1 x2 b7 t1 p1 p2 he7 (z1.frame D1 D2 fun b hb o q => up b o (fun r => hef (r ▸ hb)) q) (up _ _ (Nat.ne_of_gt hel) nw1) (m7.extBut _ _ ne1 (m6.extBut _ _ ne1 (m5.extBut _ _ ne1 nw4)))
    fun c o ce cz cT c1 c2 q => up c o ce (fr1 c o cz cT c1 c2 q)
theorem ez_end {e : Addr} {old : Value} {Q : Option Value → Shared → Prop} (S : ZipSep2 z TI TO i1 i2 fp1 fp2) (D1 : Draws prog w A.in1.in1 i1 fp1 n1 P1 St1) (D2 : Draws prog w A.in1.in1 i2 fp2 n2 P2 St2) (he : IsEnum s.heap e z i old) (x : ZE S St1 St2 i s.heap) (hle1 : i ≤ n1) (hle2 : i ≤ n2) (hend : i = n1 ∨ i = n2)
    (hQ : ∀ h' tk, (∀ c o, c ≠ z → c ≠ TO → c ≠ i1 → c ≠ i2 → s.heap.get? c = some o → h'.get? c = some o) → Q none { s with heap := h', toks := tk }) :
    wpAny (model prog w) A (pyNext (.ref e)) Q E s := by
  have hT : s.TypeIs (.ref e) "enumerate" := ⟨_, he, rfl⟩
  unfold pyNext
  refine wpAny_bind (wpAny_attempt (wpAny_callSpecial?_slot (name := Str.ofString "__next__") hT F.slot_enumerate_next
    (wpAny_call_entry F.slot_enumerate_next hT F.entry_enumerate_next ?_ (F.args_enumerate_next_1 _))))
  show wpAny _ _ (field (.ref e) 2 >>= _) _ _ _
  refine wpAny_bind (wpAny_field he rfl (x := .ref z) rfl ?_)
  refine wpAny_bind (ze_end S D1 D2 x hle1 hle2 hend fun h' tk e hk he' => ?_)
  obtain ⟨o, ho, hc⟩ := he'
  refine wpAny_bind (wpAny_isInstance (T := "StopIteration") (b := true) ⟨o, ho, hc⟩ isSubtype_stop ?_)
  exact wpAny_pure (hQ _ _ hk)
end
end PySem.W

set_option Elab.async false
set_option linter.all false
set_option maxRecDepth 100000
set_option maxHeartbeats 1000000
/-! enumerate(zip(x, y)): the walk -/
namespace PW
open PySem PySem.Spec PyProof.Rows L2 PySem.W
open AutoSeq1 (wpAny_loadPart')
theorem meets_enumerate_newZ (z TI TO : Addr) :
    Meets (Builtin.«enumerate.__new__» ⟨[.type "enumerate", .ref z], []⟩) (fun _ R s => IsZip s.heap z TI TO .none ∧
      R (.ok (.ret (.ref s.heap.objs.size))) { s with heap := s.heap.push { cls := .type "enumerate", data := .fields #[.none, .bool false, .ref z, rawInt 0, .none, .none] } }) :=
  .of_wp fun prog w A R s h => by
    obtain ⟨hp, g, d, tk, os⟩ := s; obtain ⟨hL, h⟩ := h
    have hsub := sub_enumerate
    replace hL : IsZip (Shared.heap ⟨hp, g, d, tk, os⟩) z TI TO .none := hL
    wp_walk using wpAny_loadPart' hL
    refine wpAny_stack_any fun st => wpAny_pure ?_
    split
    · rename_i c _ _ _ _ _
      cases (c == Value.type "enumerate")
      · wp_walk using wpAny_loadPart' hL, wpAny_pyIter_zip hL
        exact ⟨_, rfl, h⟩
      · wp_walk using wpAny_loadPart' hL, wpAny_pyIter_zip hL
        exact ⟨_, rfl, h⟩
    · wp_walk using wpAny_loadPart' hL, wpAny_pyIter_zip hL
      exact ⟨_, rfl, h⟩
theorem call_enumerate_zip {prog : Program} {w : World} {A : Around} {E : Value → Shared → Prop} {s : Shared} {z TI TO : Addr} {Q : Value → Shared → Prop} (hL : IsZip s.heap z TI TO .none)
    (h : ∀ h', IsEnum h' s.heap.objs.size z 0 .none → h'.objs.size = s.heap.objs.size + 1 → (∀ b o, s.heap.get? b = some o → h'.get? b = some o) → Q (.ref s.heap.objs.size) { s with heap := h' }) :
    wpAny (model prog w) A (call (.type "enumerate") [.ref z]) Q E s := by
  refine callType_new F.called_enumerate (by decide) (F.typeCall_enumerate_1 _) (F.newCall_enumerate_1 _) (fun obj => F.args_object_init_2 obj _) F.entry_enumerate_new
    (meets_enumerate_newZ z TI TO) ⟨hL, ?_⟩
  have he : IsEnum (s.heap.push { cls := .type "enumerate", data := .fields #[.none, .bool false, .ref z, rawInt 0, .none, .none] }) s.heap.objs.size z 0 .none := Heap.get?_push_size _ rfl
  exact ⟨⟨_, he, rfl⟩, h _ he (Heap.size_push ..) fun b o y => Heap.get?_push_of_some _ y⟩
/-- (i, (x, y)), both tuples new -/
def YNest (p q : Nat → V → Prop) : Nat → Hp → V → Hp → Prop := fun i H v H' => ∃ T U x y, v = .ref U ∧ H T = none ∧ H U = none ∧ T ≠ U ∧ H' = upd (upd H T (.tup [x, y])) U (.tup [.int (i : Nat), .ref T]) ∧ p i x ∧ q i y
def IteT2 (K : PySem.W.Frag) (a b : Addr) : It :=
  ⟨fun i H => ∃ (xs ys : List V), SqT K H a xs ∧ SqT K H b ys ∧ i < xs.length ∧ i < ys.length,
    fun i H v H' => YNest (fun i x => ∀ xs, SqT K H a xs → xs[i]? = some x) (fun i y => ∀ ys, SqT K H b ys → ys[i]? = some y) i H v H',
    fun i H => ∃ xs ys : List V, SqT K H a xs ∧ SqT K H b ys ∧ i ≤ xs.length ∧ i ≤ ys.length ∧ (xs.length = i ∨ ys.length = i)⟩
structure EzSep (n a b : Addr) : Prop where
  la : a < n
  lb : b < n
theorem EzSep.out {n a b : Addr} (S : EzSep n a b) : n + 5 ∉ [n + 4, n + 2, n + 3] ++ [n, a] ++ [n + 1, b] := by
  have la : @LT.lt Nat _ a n := S.la
  have lb : @LT.lt Nat _ b n := S.lb
  intro m
  have e' : @Eq Nat (n + 5) (n + 4) ∨ @Eq Nat (n + 5) (n + 2) ∨ @Eq Nat (n + 5) (n + 3) ∨ @Eq Nat (n + 5) n ∨ @Eq Nat (n + 5) a ∨ @Eq Nat (n + 5) (n + 1) ∨ @Eq Nat (n + 5) b := by
    simpa only [List.cons_append, List.nil_append, List.mem_cons, List.not_mem_nil, or_false] using m
  rcases e' with q | q | q | q | q | q | q <;> exact absurd q (by omega)
/-- the state at turn i -/
structure EzT (n a b : Addr) (i : Nat) (h : Heap) : Prop where
  e : ∃ old, IsEnum h (n + 5) (n + 4) ((i : Nat) : Int) old
  ti : IsTupOf2 h (n + 2) (.ref n) (.ref (n + 1))
  to : ∃ u v, IsTupOf2 h (n + 3) u v
  i1 : h.IsTupleIter n a i
  i2 : h.IsTupleIter (n + 1) b i
  z : ∃ f0 f, ZipR h (n + 4) (n + 2) (n + 3) f0 f ∧ (f0 = .none ∨ ∃ T : Nat, f0 = rawInt T)
theorem EzT.ze {n a b : Addr} {i : Nat} {h : Heap} {xs ys : Array Value} (S : EzSep n a b) (x : EzT n a b i h) (p : h.IsTuple a xs) (p2 : h.IsTuple b ys) :
    ZE (zsep S.la S.lb) (fun i h => h.IsTupleIter n a i ∧ h.IsTuple a xs) (fun i h => h.IsTupleIter (n + 1) b i ∧ h.IsTuple b ys) i h :=
  ⟨x.ti, x.to, ⟨x.i1, p⟩, ⟨x.i2, p2⟩, x.z⟩
theorem turn_ezT {P : Program} {w : World} {K : PySem.W.Frag} {elts : List Expr} {kk : Nat} {tpos : Pos} {n a b : Addr} (S : EzSep n a b) :
    Turn P w K (.Tuple elts kk tpos) (IteT2 K a b) [n + 5, n + 4, n + 2, n + 3, n, n + 1] (n + 5) (EzT n a b) where
  mem := by simp
  obj := fun i h st c hc => by
    obtain ⟨⟨old, he⟩, hTI, ⟨u, v, hTO⟩, ⟨o1, e1, _, d1⟩, ⟨o2, e2, _, d2⟩, ⟨f0, f, hz, _⟩⟩ := st
    have e' : c = n + 5 ∨ c = n + 4 ∨ c = n + 2 ∨ c = n + 3 ∨ c = n ∨ c = n + 1 := by simpa using hc
    rcases e' with q | q | q | q | q | q
    · rw [q]; exact ⟨_, he, fun v q => nomatch q⟩
    · rw [q]; exact ⟨_, hz, fun v q => nomatch q⟩
    · rw [q]; exact ⟨_, hTI, fun v q => nomatch q⟩
    · rw [q]; exact ⟨_, hTO, fun v q => nomatch q⟩
    · rw [q]; exact ⟨o1, e1, fun v q => by rw [d1] at q; cases q⟩
    · rw [q]; exact ⟨o2, e2, fun v q => by rw [d2] at q; cases q⟩
  keep := fun i h h' st k => by
    obtain ⟨⟨old, he⟩, hTI, ⟨u, v, hTO⟩, h1, h2, ⟨f0, f, hz, r⟩⟩ := st
    exact ⟨⟨old, k _ (by simp) _ he⟩, k _ (by simp) _ hTI, ⟨u, v, k _ (by simp) _ hTO⟩, h1.at fun o q => k _ (by simp) o q, h2.at fun o q => k _ (by simp) o q, ⟨f0, f, k _ (by simp) _ hz, r⟩⟩
  item := by
    intro X hP hw hK hc i pins s σ H E I hf st hg
    subst hP hw hK
    obtain ⟨xs, ys, hqx, hqy, hi1, hi2⟩ := hg
    obtain ⟨its, rv, p, _⟩ := I.tuple hqx
    obtain ⟨its2, rv2, p2, _⟩ := I.tuple hqy
    have l1 := rv.length
    have l2 := rv2.length
    have hh : X.A.in1.in1.handled = none := I.ok.hd hc
    have na : a ≠ n := nea (.inl S.la)
    have nb : b ≠ n + 1 := nea (.inl (Nat.lt_succ_of_lt S.lb))
    obtain ⟨old, he⟩ := st.e
    have sl : @LT.lt Nat _ (n + 5) s.heap.objs.size := Heap.lt_size he
    refine ez_item (zsep S.la S.lb) (Draws.tuple (prog := X.prog) (w := X.w) (A := X.A.in1.in1) hh n a na its.toArray) (Draws.tuple (prog := X.prog) (w := X.w) (A := X.A.in1.in1) hh (n + 1) b nb its2.toArray) he (st.ze S p p2) (by rw [List.size_toArray, ← l1]; exact hi1) (by rw [List.size_toArray, ← l2]; exact hi2) S.out fun u u2 h' tk hu hu2 he' z' nw nw2 fr => ?_
    refine ⟨_, rfl, wpAny_letOwnedTupleGo_enum (s := { s with heap := h', toks := tk + 1 }) he' fun h'' he'' sb => ?_⟩
    have hu : its.toArray[i]? = some u := hu
    have hu2 : its2.toArray[i]? = some u2 := hu2
    have up : ∀ c o, c ≠ n + 5 → h'.get? c = some o → h''.get? c = some o := fun c o hc e => (sb.2 c hc).trans e
    have hx := List.getElem?_eq_getElem hi1
    have hy := List.getElem?_eq_getElem hi2
    obtain ⟨v, hv, ru⟩ := rv.get hx
    obtain ⟨v2, hv2, ru2⟩ := rv2.get hy
    have ev : v = u := by
      have h2 : its.toArray[i]? = some v := by simpa using hv
      rw [hu] at h2; exact (Option.some.inj h2).symm
    have ev2 : v2 = u2 := by
      have h2 : its2.toArray[i]? = some v2 := by simpa using hv2
      rw [hu2] at h2; exact (Option.some.inj h2).symm
    subst ev ev2
    have nT : @Ne Addr s.heap.objs.size (n + 5) := nea (by omega)
    have nU : @Ne Addr (s.heap.objs.size + 1) (n + 5) := nea (by omega)
    have fT : H s.heap.objs.size = none := I.hok.fresh (Nat.le_refl _)
    have fU : H (s.heap.objs.size + 1) = none := I.hok.fresh (Nat.le_succ _)
    have tT : h''.get? s.heap.objs.size = some { cls := .type "tuple", data := .seq #[v, v2] } := up _ _ nT nw
    have tU : h''.get? (s.heap.objs.size + 1) = some { cls := .type "tuple", data := .seq #[.int i tk, .ref s.heap.objs.size] } := up _ _ nU nw2
    have new1 : ObjOk X.prog X.w (upd H s.heap.objs.size (.tup [xs[i], ys[i]])) h'' s.heap.objs.size (.tup [xs[i], ys[i]]) :=
      ⟨by show 2 ≤ sizeLine; decide, [v, v2], .cons ru (.cons ru2 .nil), ⟨_, tT, rfl, _, rfl⟩⟩
    have I1 : Inv X pins σ (upd H s.heap.objs.size (.tup [xs[i], ys[i]])) { s with heap := h'', toks := tk + 1 } :=
      I.turnedNew (t' := tk + 1) (ch := [n + 5, n + 4, n + 2, n + 3, n, n + 1]) (fun c o hb q => up c o (fun q' => hb (by simp [q'])) (fr c o (fun q' => hb (by simp [q'])) (fun q' => hb (by simp [q'])) (fun q' => hb (by simp [q'])) (fun q' => hb (by simp [q'])) (fun q' => hb (by simp [q'])) q)) hf (Nat.le_refl _) new1
    have neTU : @Ne Addr s.heap.objs.size (s.heap.objs.size + 1) := nea (by omega)
    have fU' : (upd H s.heap.objs.size (.tup [xs[i], ys[i]])) (s.heap.objs.size + 1) = none := by rw [upd_ne (Ne.symm neTU)]; exact fU
    have new2 : ObjOk X.prog X.w (upd (upd H s.heap.objs.size (.tup [xs[i], ys[i]])) (s.heap.objs.size + 1) (.tup [.int (i : Nat), .ref s.heap.objs.size])) h'' (s.heap.objs.size + 1) (.tup [.int (i : Nat), .ref s.heap.objs.size]) :=
      ⟨by show 2 ≤ sizeLine; decide, [.int i tk, .ref s.heap.objs.size], .cons ⟨_, rfl⟩ (.cons rfl .nil), ⟨_, tU, rfl, _, rfl⟩⟩
    have I2 : Inv X pins σ (upd (upd H s.heap.objs.size (.tup [xs[i], ys[i]])) (s.heap.objs.size + 1) (.tup [.int (i : Nat), .ref s.heap.objs.size])) { s with heap := h'', toks := tk + 1 } :=
      I1.take (t' := tk + 1) (fun c o _ e => e) (I.fpOk (H' := upd H s.heap.objs.size (.tup [xs[i], ys[i]])) (Nat.le_succ _) fU') new2
    refine ⟨.ref (s.heap.objs.size + 1), _, I2, rfl, ⟨_, _, xs[i], ys[i], rfl, fT, fU, neTU, rfl, fun l hl => by rw [I.tuple_inj hl hqx]; exact hx, fun l hl => by rw [I.tuple_inj hl hqy]; exact hy⟩, ?_, fun c hcm => ?_⟩
    · obtain ⟨zu, zv, zto⟩ := z'.to
      obtain ⟨g0, g, zz, zr⟩ := z'.z
      have e1 : ((i + 1 : Nat) : Int) = (i : Int) + 1 := by omega
      refine ⟨⟨_, by rw [e1]; exact he''⟩, up _ _ (nea (by omega)) z'.ti, ⟨zu, zv, up _ _ (nea (by omega)) zto⟩, z'.s1.1.at fun o q => up _ o (nea (by omega)) q, z'.s2.1.at fun o q => up _ o (nea (by omega)) q, ⟨g0, g, up _ _ (nea (by omega)) zz, zr⟩⟩
    · have hlt : @LT.lt Nat _ c s.heap.objs.size := by
        have e' : c = n + 5 ∨ c = n + 4 ∨ c = n + 2 ∨ c = n + 3 ∨ c = n ∨ c = n + 1 := by simpa using hcm
        rcases e' with q | q | q | q | q | q <;> rw [q] <;> first | exact sl | (show @LT.lt Nat _ _ _; omega)
      rw [upd_ne (nea (by omega)), upd_ne (nea (by omega))]
      exact (hf c hcm).1
  done := by
    intro X hP hw hK hc i pins s σ H E I hf st hg
    subst hP hw hK
    obtain ⟨xs, ys, hqx, hqy, hi1, hi2, hend⟩ := hg
    obtain ⟨its, rv, p, _⟩ := I.tuple hqx
    obtain ⟨its2, rv2, p2, _⟩ := I.tuple hqy
    have l1 := rv.length
    have l2 := rv2.length
    have hh : X.A.in1.in1.handled = none := I.ok.hd hc
    have na : a ≠ n := nea (.inl S.la)
    have nb : b ≠ n + 1 := nea (.inl (Nat.lt_succ_of_lt S.lb))
    obtain ⟨old, he⟩ := st.e
    have s1 : its.toArray.size = its.length := List.size_toArray ..
    have s2 : its2.toArray.size = its2.length := List.size_toArray ..
    refine ez_end (zsep S.la S.lb) (Draws.tuple (prog := X.prog) (w := X.w) (A := X.A.in1.in1) hh n a na its.toArray) (Draws.tuple (prog := X.prog) (w := X.w) (A := X.A.in1.in1) hh (n + 1) b nb its2.toArray) he (st.ze S p p2) (by omega) (by omega) (by omega) fun h' tk fr => ⟨rfl, ?_⟩
    exact I.turnedL (t' := tk) (ch := [n + 5, n + 4, n + 2, n + 3, n, n + 1]) (fun c o hb q => fr c o (fun q' => hb (by simp [q'])) (fun q' => hb (by simp [q'])) (fun q' => hb (by simp [q'])) (fun q' => hb (by simp [q'])) q) hf
  self := fun A i s Q E st h => let ⟨_, he⟩ := st.e; wpAny_pyIter_enum he h
def iEnumZ (K : PySem.W.Frag) (ta : TA) : TI := fun σ H R => ta σ H fun vs H1 => ∃ a b xs ys, vs = [.ref a, .ref b] ∧ SqT K H1 a xs ∧ SqT K H1 b ys ∧ R (IteT2 K a b) H1
theorem pi_enumZ {X : Cx} {e e2 : Expr} {ta : TA} {p p2 q pos tpos : Pos} {elts : List Expr} {kk : Nat} (hg : Gl X "enumerate") (hm : X.mg "enumerate" = none) (hg2 : Gl X "zip") (hm2 : X.mg "zip" = none) (ha : PA X [e, e2] ta)
    (hs : starEach [e, e2] X.env = (false, eval e X.env) :: starEach [e2] X.env := by rfl) (hpl : (backTo q (starEach [e2] X.env)).any (·.1) = false := by rfl) (hz : starEach [.Call (.Name "zip" p2) [e, e2] [] q] X.env = (false, eval (.Call (.Name "zip" p2) [e, e2] [] q) X.env) :: starEach [] X.env := by rfl) :
    PI X (.Tuple elts kk tpos) (.Call (.Name "enumerate" p) [.Call (.Name "zip" p2) [e, e2] [] q] [] pos) (iEnumZ X.K ta) := by
  refine ⟨fun pins s σ H R I h => ?_⟩
  refine Call_ (ld_blt I hg hm boot_enumerate (PyProof.Rows.callWith_type1 ?_ hz rfl))
  refine PyProof.Rows.args_cons ?_ hz
  refine Call_ (ld_blt I hg2 hm2 PyProof.Rows.boot_zip (PyProof.Rows.callWith_type1 (thn (ha.run q pins s σ H _ I h) fun us s1 ⟨vs, H1, I1, r1, q1⟩ => ?_) hs hpl))
  obtain ⟨a, b, xs, ys, ex, hqx, hqy, q1⟩ := q1
  subst ex
  cases r1 with
  | cons r rr =>
    cases rr with
    | cons r' rr =>
      cases rr
      cases r
      cases r'
      obtain ⟨its, rv, p1, _⟩ := I1.tuple hqx
      obtain ⟨its2, rv2, p2, _⟩ := I1.tuple hqy
      obtain ⟨o1, ho1, _⟩ := id p1
      obtain ⟨o2, ho2, _⟩ := id p2
      refine RZ.call_zipT (show s1.heap.IsTuple a its.toArray from p1) (show s1.heap.IsTuple b its2.toArray from p2) fun h' hz hTI hTO h1 h2 hsz hk => ?_
      refine PyProof.Rows.args_nil ?_
      refine call_enumerate_zip (s := { s1 with heap := h' }) hz fun h'' he hsz2 hk2 => wpAny_pyIter_enum he ?_
      have e5 : (Shared.heap { s1 with heap := h' }).objs.size = s1.heap.objs.size + 5 := hsz
      rw [e5] at he ⊢
      have hk' : ∀ c o, h'.get? c = some o → h''.get? c = some o := hk2
      refine ⟨s1.heap.objs.size + 5, [s1.heap.objs.size + 5, s1.heap.objs.size + 4, s1.heap.objs.size + 2, s1.heap.objs.size + 3, s1.heap.objs.size, s1.heap.objs.size + 1], _, _, H1, rfl, I1.kept (t' := s1.toks) (h' := h'') fun c o x => hk' c o (hk c o x), turn_ezT ⟨Heap.lt_size ho1, Heap.lt_size ho2⟩, ⟨⟨_, he⟩, hk' _ _ hTI, ⟨_, _, hk' _ _ hTO⟩, h1.at fun o x => hk' _ o x, h2.at fun o x => hk' _ o x, ⟨.none, false, hk' _ _ hz, .inl rfl⟩⟩, fun c hcm => ?_, q1⟩
      have hle : @LE.le Nat _ s1.heap.objs.size c := by
        have e' : c = s1.heap.objs.size + 5 ∨ c = s1.heap.objs.size + 4 ∨ c = s1.heap.objs.size + 2 ∨ c = s1.heap.objs.size + 3 ∨ c = s1.heap.objs.size ∨ c = s1.heap.objs.size + 1 := by simpa using hcm
        rcases e' with x | x | x | x | x | x <;> rw [x] <;> first | exact Nat.le_refl _ | exact Nat.le_add_right _ _
      exact I1.fpOk hle (I1.hok.fresh hle)
/-- (i, (x, y)) -/
def enumZD (ds es : List D) : List D := enumD (zipD ds es)
def D.enumZ : List D → W (List D)
  | [.tup xs, .tup ys] => W.pure (enumZD xs ys)
  | _ => W.fail
theorem walk_ezT {K : PySem.W.Frag} {a b : Addr} {xs ys : List V} {n : Nat} (hn : n = min xs.length ys.length) : Walk (IteT2 K a b) n (fun H => SqT K H a xs ∧ SqT K H b ys) (YNest (fun i x => xs[i]? = some x) (fun i y => ys[i]? = some y)) := by
  subst hn
  refine ⟨fun i _ hi q => ⟨xs, ys, q.1, q.2, by omega, by omega⟩, fun _ q => ⟨xs, ys, q.1, q.2, by omega, by omega, by omega⟩, fun i H v H' _ q y => ?_⟩
  obtain ⟨T, U, x, z, h1, h2, h3, h4, h5, h6, h7⟩ := y
  exact ⟨T, U, x, z, h1, h2, h3, h4, h5, h6 xs q.1, h7 ys q.2⟩
theorem ez_core {K : PySem.W.Frag} {mg : Str → Option Value} {z : Z} {a b : Addr} {xs ys : List V} {ds es : List D} (hG : ∀ z' H', Z.le z z' → ZOk K z' H' → SqT K H' a xs ∧ SqT K H' b ys) (ra : RpL K mg z xs ds) (rb : RpL K mg z ys es) (hz : xs.length ≤ sizeLine) : Wk K mg (IteT2 K a b) (enumZD ds es) z := by
  have hl : min xs.length ys.length = (enumZD ds es).length := by unfold enumZD; rw [enumD_len, zipD_len, ← ra.length, ← rb.length]
  refine ⟨⟨_, _, _, walk_ezT (xs := xs) (ys := ys) rfl, hl, hG, fun i H x H' z' l ok hi y => ?_⟩, by rw [← hl]; omega⟩
  obtain ⟨T, U, x', y', rfl, hT, hU, ne, rfl, e1, e2⟩ := y
  obtain ⟨d, g1, rd⟩ := ra.getV e1
  obtain ⟨e, g2, re⟩ := rb.getV e2
  have s1 : Step K z' H (z'.put T (.tup [x', y'])) (upd H T (.tup [x', y'])) := Step.put ok hT trivial
  have hU' : upd H T (.tup [x', y']) U = none := by rw [upd_ne (Ne.symm ne)]; exact hU
  have s2 := Step.put (o := .tup [.int (i : Nat), .ref T]) s1.ok hU' trivial
  have l1 := Z.le_put (o := .tup [x', y']) (ok.free hT)
  have r1 : Rp K mg (z'.put T (.tup [x', y'])) (.ref T) (.tup [d, e]) := .tup Z.put_at (.cons ((rd.le l).le l1) (.cons ((re.le l).le l1) .nil))
  have l2 := Z.le_put (o := .tup [.int (i : Nat), .ref T]) (s1.ok.free hU')
  exact ⟨_, _, enumD_get (zipD_get g1 g2), s1.trans s2, .tup Z.put_at (.cons (.int _) (.cons (r1.le l2) .nil))⟩
section
variable {M : Mo} {S : Fix} {tg e e2 : Expr} {fs : Env → W (List D)} {p p2 q pos tpos : Pos} {elts : List Expr} {kk : Nat}
theorem i_enumZ (ha : EvAV M S [e, e2] fs) (hf : decide (("enumerate" : Str) ∈ M.free) = true := by kernel_rfl) (hf2 : decide (("zip" : Str) ∈ M.free) = true := by kernel_rfl) (hg : S.sc.names.lookup ("enumerate" : Str) = some .globalImplicit := by kernel_rfl) (hg2 : S.sc.names.lookup ("zip" : Str) = some .globalImplicit := by kernel_rfl)
    (hs : ∀ env, starEach [e, e2] env = (false, eval e env) :: starEach [e2] env := by intro _; kernel_rfl) (hpl : ∀ env, (backTo q (starEach [e2] env)).any (·.1) = false := by intro _; kernel_rfl)
    (hz : ∀ env, starEach [.Call (.Name "zip" p2) [e, e2] [] q] env = (false, eval (.Call (.Name "zip" p2) [e, e2] [] q) env) :: starEach [] env := by intro _; kernel_rfl) :
    EvI M S (.Tuple elts kk tpos) (.Call (.Name "enumerate" p) [.Call (.Name "zip" p2) [e, e2] [] q] [] pos) fun ρ => (fs ρ).bind D.enumZ := fun X G => by
  refine (pi_enumZ (gl_of G hg) (G.free _ (of_decide_eq_true hf)) (gl_of G hg2) (G.free _ (of_decide_eq_true hf2)) (ha X G) (hs _) (hpl _) (hz _)).impW fun σ H R fc ⟨z0, H0, z, ρ, E, h⟩ => ⟨z0, H0, z, ρ, E, (fs ρ).mono (fun ds k vs z1 H1 st1 fc1 r1 => ?_) h⟩
  unfold D.enumZ at k
  split at k
  · obtain ⟨v, u, rfl, r, r'⟩ := r1.two
    cases r with
    | tup hf r =>
      cases r' with
      | tup hf' r' =>
        exact ⟨_, _, _, _, rfl, .of (st1.ok.sub _ _ hf), .of (st1.ok.sub _ _ hf'), fun _ => k _ z1 H1 st1 fc1 (ez_core (fun z' H' l ok => ⟨.of (ok.sub _ _ (l.f _ _ hf)), .of (ok.sub _ _ (l.f _ _ hf'))⟩) r r' (fc1.t _ _ (.of (st1.ok.sub _ _ hf))))⟩
  · exact (show False from k).elim
end
end PW

set_option Elab.async false
set_option linter.all false
set_option maxRecDepth 100000
set_option maxHeartbeats 1000000
/-! sorted(d.items()), d a dict with tuple keys -/
namespace PySem.W
open PySem PySem.SeqAt PySem.Calls PyProof.Rows
section
variable {prog : Program} {w : World} {A : Around} {E : Value → Shared → Prop} {s : Shared}
/-- sorted(x), whatever collect makes of x; what the values are is known behind the collecting only -/
theorem pw_sorted_of2 {x : Value} {Q : Value → Shared → Prop} {β : Type} {enc : β → PyData} {C : Heap → Nat → (Value → β → Prop) → Prop} {bs : List β}
    (hc : ∀ (E' : Value → Shared → Prop) (Q' : List Value → Shared → Prop), (∀ vs h' tk R, (∀ b o, s.heap.get? b = some o → h'.get? b = some o) → C h' tk R → EachIs (fun v d => R v d ∧ ∃ as, Reads h' v (enc d) as) vs bs → Q' vs { s with heap := h', toks := tk }) → wpAny (model prog w) A.in1 (collect x) Q' E' s)
    (hal : AllAlike (bs.map enc)) (hk : PwSortable (bs.map enc)) (hL : bs.length ≤ sizeLine) (hu : ∀ b, b ∈ bs → A.units + 2 + (enc b).depth < cLine)
    (h : ∀ (p : Addr) (h1 h' : Heap) (tk tk' : Nat) R out c, (∀ b o, s.heap.get? b = some o → h1.get? b = some o) → C h1 tk R → h1.objs.size ≤ p → (∀ b o, h1.get? b = some o → h'.get? b = some o) → h'.get? p = some (seqObj "list" (List.toArray out) c) → EachIs R out (bs.mergeSort (dataLe false enc)) → Q (.ref p) { s with heap := h', toks := tk' }) :
    wpAny (model prog w) A (call (.builtin "sorted") [x]) Q E s := by
  refine call_function_entry kind_sorted plain_sorted entry_sorted (args_sorted1 _) ?_
  unfold Builtin.«sorted»
  refine wpAny_bind (m := checkCount "sorted" 1 1 _) (wpAny_pure ?_)
  refine wpAny_bind (hc _ _ fun vs h' tk R hkeep hC he => ?_)
  have hlen : vs.length = bs.length := he.length
  refine wpAny_bind (wpAny_newList ?_ (by rw [hlen]; exact hL))
  have hoL : (h'.push (seqObj "list" vs.toArray 0)).get? h'.objs.size = some (seqObj "list" vs.toArray 0) := Heap.get?_push_size _ rfl
  show wpAny _ _ _ _ _ { s with heap := h'.push (seqObj "list" vs.toArray 0), toks := tk }
  have keep2 : ∀ b o, h'.get? b = some o → (sortingHeap (h'.push (seqObj "list" vs.toArray 0)) h'.objs.size vs).get? b = some o := fun b o e =>
    sortingHeap_old (Nat.ne_of_lt (Heap.lt_size e)) (Heap.get?_push_of_some _ e)
  have er : EachIs (fun v d => ∃ as, Reads (sortingHeap (h'.push (seqObj "list" vs.toArray 0)) h'.objs.size vs) v (enc d) as) vs bs := he.mono fun v d ⟨_, as, r⟩ => ⟨as, PyProof.Rows.Reads.keeps keep2 r⟩
  refine wpAny_bind (wpAny_holding (wpAny_call_entry slot_list_sort ⟨_, hoL, rfl⟩ entry_list_sort
    (list_sort_vals (s := { s with heap := h'.push (seqObj "list" vs.toArray 0), toks := tk }) hoL
      (pw_sortsAt (s := { s with heap := sortingHeap (h'.push (seqObj "list" vs.toArray 0)) h'.objs.size vs, toks := tk }) (each_map (R := fun v d => ∃ as, Reads (sortingHeap (h'.push (seqObj "list" vs.toArray 0)) h'.objs.size vs) v d as) enc er) hal hk fun d hd => by obtain ⟨b, hb, rfl⟩ := List.mem_map.mp hd; have := hu b hb; show A.units + 1 + 1 + _ < _; omega) (by rw [hlen]; exact hL) ⟨_, rfl, ?_⟩)
    (args_list_sort _)))
  obtain ⟨c, hc'⟩ := PyProof.Rows.sortedHeap_at (vs := vs) (out := (sortVals (dataKind (sortingHeap (h'.push (seqObj "list" vs.toArray 0)) h'.objs.size vs) (bs.map enc)) false vs vs).toArray) hoL
  refine wpAny_pure ⟨_, rfl, h h'.objs.size h' _ tk tk R _ c hkeep hC (Nat.le_refl _) (fun b o e1 => ?_) hc' ?_⟩
  · have hb : b < h'.objs.size := Heap.lt_size e1
    rw [PyProof.Rows.sortedHeap_old (Nat.ne_of_lt hb) (by rw [size_push']; exact Nat.lt_succ_of_lt hb)]
    exact Heap.get?_push_of_some _ e1
  · exact sortVals_data false (he.mono fun v d q => q.1) er hal
end
end PySem.W
namespace PW
open PySem PySem.Spec PyProof.Rows L2
/-- the pairs of a dict -/
def itemsT (kvs : List (List Key × D)) : List D := kvs.map fun kv => .tup [.tup (kv.1.map keyD), kv.2]
def D.itemsL : D → W (List D)
  | .dT kvs => W.pure (itemsT kvs)
  | _ => W.fail
def rSortI (K : PySem.W.Frag) (mg : Str → Option Value) : List V → Hp → VK → Prop := fun vs H Q => ∃ z p a kvs ks, ZOk K z H ∧ vs = [V.ref p] ∧ H p = some (DX.itemsO p a) ∧ H a = some (.dT kvs) ∧ RpT K mg z kvs ks ∧ SortOk (itemsT ks) ∧ ks.length ≤ sizeLine ∧
  ∀ z' H1 ys q, Step K z H z' H1 → RpL K mg z' ys (sortL (itemsT ks)) → H1 q = none → Q (.ref q) (upd H1 q (.lst ys))
theorem rpT_at {K : PySem.W.Frag} {mg : Str → Option Value} {z : Z} : ∀ {v : List (List Key × V)} {d : List (List Key × D)} {j : Nat} {e : List Key × V}, RpT K mg z v d → v[j]? = some e → ∃ x, d[j]? = some (e.1, x) ∧ Rp K mg z e.2 x
  | _, _, 0, e, .cons (d := d) h _, q => by cases q; exact ⟨d, rfl, h⟩
  | _ :: vs, _ :: ds, j + 1, e, .cons _ t, q => rpT_at (j := j) (e := e) t (by simpa using q)
theorem rpL_of_at {K : PySem.W.Frag} {mg : Str → Option Value} {z : Z} : ∀ {vs : List V} {ds : List D}, vs.length = ds.length → (∀ (j : Nat) v d, vs[j]? = some v → ds[j]? = some d → Rp K mg z v d) → RpL K mg z vs ds
  | [], [], _, _ => .nil
  | v :: vs, d :: ds, hl, h => .cons (h 0 v d rfl rfl) (rpL_of_at (by simpa using hl) fun j v d e1 e2 => h (j + 1) v d (by simpa using e1) (by simpa using e2))
  | [], _ :: _, h, _ => by simp at h
  | _ :: _, [], h, _ => by simp at h
theorem cr_sortI {X : Cx} (hc : X.calm = true) (hu : X.A.units + 200 < cLine) : CallR X (.builtin "sorted") (rSortI X.K X.mg) := by
  intro pins s σ H vs us Q I r ⟨z, p, a, kvs, ks, ok, e, hp, ha, rp, so, hz, k⟩
  subst e
  rw [Vals.ref1 r]
  have view : s.heap.IsItemsView p a := (show ObjOk X.prog X.w H s.heap p (DX.itemsO p a) from I.hok p _ hp).1
  obtain ⟨zl, hd, xs', rel, o, es, ep, ho, hx, hdat, hes, his, hn⟩ := dt_of I.hok ha
  have l1 : kvs.length = xs'.length := Paired.length rel
  have l2 : es.size = xs'.length := size_of_entries hes
  have l3 : kvs.length = ks.length := rp.length
  have hh : X.A.handled = none := I.ok.hd hc
  refine PySem.W.pw_sorted_of2 (enc := pyD) (bs := itemsT ks)
    (C := fun h1 tk R => ∃ z2 H2, Inv X pins σ H2 { s with heap := h1, toks := tk } ∧ Step X.K z H z2 H2 ∧ R = fun v d => ∃ x, RelV x v ∧ Rp X.K X.mg z2 x d)
    (fun E' Q' hq => ?_) so.alike so.kind (by unfold itemsT; rw [List.length_map]; exact hz) (fun d hd => by have := so.depth d hd; omega) fun q h1 h' tk tk' R out c k1 hC hp2 k2 hg eo => ?_
  · refine DT.collectI (A := X.A.in1) (es := es) (ep := ep) hh view ⟨o, ho, hx, hdat⟩ (by rw [l2, ← l1]; exact zl) fun h' tk as hk hlt hl hG => ?_
    have nd : as.Nodup := List.Pairwise.imp (fun h => Nat.ne_of_lt h) hG.rise
    -- the pairs that were made
    have pr : ∀ (j : Nat) (b : Addr), as[j]? = some b → ∃ (e : List Key × V) (kq : Addr) (v : Value), (xs'.map fun x => x.2.1)[j]? = some kq ∧ kvs[j]? = some e ∧ H kq = some (.tup (e.1.map L2.kV)) ∧ RelV e.2 v ∧ h'.get? b = some { cls := .type "tuple", data := .seq #[Value.ref kq, v] } := by
      intro j b hj
      obtain ⟨en, he, hg⟩ := hG.pairs j b hj
      rw [entry_at hes j] at he
      cases hxj : xs'[j]? with
      | none =>
        rw [hxj] at he
        exact nomatch (show (none : Option DictEntry) = some en from he)
      | some x =>
        rw [hxj] at he
        have een : entryOfKey (tupleKind (mixKind X.prog X.w)) x = en := Option.some.inj he
        obtain ⟨e0, he0, r1, r2, r3⟩ := DX.pget rel hxj
        refine ⟨e0, x.2.1, x.2.2, by rw [List.getElem?_map, hxj]; rfl, he0, r2, r3, ?_⟩
        rw [hg, ← een]
        all_goals rfl
    have I1 : Inv X pins σ H { s with heap := h', toks := tk } := I.kept (t' := tk) hk
    obtain ⟨H2, I3, g, qt⟩ := DX.takeT (P := fun b vs => ∃ (j : Nat) (e : List Key × V) (kq : Addr), as[j]? = some b ∧ kvs[j]? = some e ∧ vs = [.ref kq, e.2] ∧ (xs'.map fun x => x.2.1)[j]? = some kq) I as _ I1 nd fun b hb => by
      obtain ⟨j, hj⟩ := List.mem_iff_getElem?.mp hb
      obtain ⟨e, kq, v, hxk, he, hkq, rv, hg⟩ := pr j b hj
      have hbl : s.heap.objs.size ≤ b := Nat.le_of_lt (hG.above b hb)
      exact ⟨hbl, I.hok.fresh hbl, [.ref kq, e.2], ⟨j, e, kq, hj, he, rfl, hxk⟩, fun H3 => ⟨(by rw [sizeLine_eq]; show 2 ≤ 16777216; omega), [Value.ref kq, v], .cons rfl (.cons rv .nil), ⟨_, hg, rfl, 0, rfl⟩⟩⟩
    have fresh : ∀ b ∈ as, H b = none := fun b hb => I.hok.fresh (Nat.le_of_lt (hG.above b hb))
    obtain ⟨z1, st1, n1⟩ := Step.grow ok g as fresh
    obtain ⟨z2, st2, r2⟩ := freeze_keys (mg := X.mg) (z := z1) (H := H2) st1.ok (isKeys_of (show KT H2 kvs xs' from rel.keeps fun b ys e => g b _ e))
    have st := st1.trans st2
    have lk : as.length = kvs.length := by omega
    have hL : RpL X.K X.mg z2 (as.map V.ref) (itemsT ks) := by
      refine rpL_of_at (by unfold itemsT; rw [List.length_map, List.length_map]; omega) fun j v d e1 e2 => ?_
      rw [List.getElem?_map] at e1
      obtain ⟨b, hb, rfl⟩ := Option.map_eq_some_iff.mp e1
      obtain ⟨vs, ⟨j', e, kq, h1, h2, rfl, h3⟩, h4⟩ := qt b (List.mem_of_getElem? hb)
      have ej : j' = j := (List.getElem?_inj (List.getElem?_eq_some_iff.mp h1).1 nd).mp (h1.trans hb.symm)
      subst ej
      obtain ⟨x, hx1, hx2⟩ := rpT_at rp h2
      unfold itemsT at e2
      rw [List.getElem?_map, hx1] at e2
      cases e2
      have f1 := st2.le.f _ _ (n1 b (List.mem_of_getElem? hb) _ h4 trivial)
      obtain ⟨x', e3, f2⟩ := r2.getV (i := j') (y := .ref kq) (by rw [List.getElem?_map, h3]; rfl)
      rw [List.getElem?_map, h2] at e3
      cases e3
      exact .tup f1 (.cons f2 (.cons (hx2.le st.le) .nil))
    refine hq _ h' tk (fun v d => ∃ x, RelV x v ∧ Rp X.K X.mg z2 x d) hk ⟨z2, H2, I3, st, rfl⟩ ?_
    exact each_rp (z := z2) (H := H2) I3 st.ok (fun _ _ e => e) (vals_refs _) hL so.py
  · obtain ⟨z2, H2, I2, st, rfl⟩ := hC
    obtain ⟨ys, hv, hr⟩ := each_back eo
    have hl : ys.length ≤ sizeLine := by rw [hr.length]; show (sortL (itemsT ks)).length ≤ _; unfold sortL itemsT; rw [List.length_mergeSort, List.length_map]; exact hz
    exact ⟨.ref q, upd H2 q (.lst ys), I2.laid (t' := tk') k2 hp2 (show ObjOk X.prog X.w _ _ _ (.lst ys) from ⟨hl, out, c, hv, hg⟩), rfl, k z2 H2 ys q st hr (I2.hok.fresh hp2)⟩
section
variable {M : Mo} {S : Fix} {o : Expr} {f : Env → W D} {p p1 p2 pos : Pos}
/-- sorted(d.items()) -/
theorem f_sortItems (ho : EvB M S o f) (hf : decide (("sorted" : Str) ∈ M.free) = true := by kernel_rfl) (hg : S.sc.names.lookup ("sorted" : Str) = some .globalImplicit := by kernel_rfl)
    (hbase : ∀ env, attributeBase o "items" env (eval o env) = eval o env := by intro _; kernel_rfl) (hline : (p1.endLine == p2.line) = true := by kernel_rfl)
    (he : ∀ env, starEach [.Call (.Attribute o "items" p1) [] [] p2] env = (false, eval (.Call (.Attribute o "items" p1) [] [] p2) env) :: starEach [] env := by intro _; kernel_rfl) (hpl : ∀ env, (backTo pos (starEach [] env)).any (·.1) = false := by intro _; kernel_rfl) :
    EvF M S (.Call (.Name "sorted" p) [.Call (.Attribute o "items" p1) [] [] p2] [] pos) fun ρ => (f ρ).bind fun d => d.itemsL.bind fun ds => (W.need (SortOk ds ∧ ds.length ≤ sizeLine)).bind fun _ => W.pure (.lst (sortL ds)) := fun X G => by
  refine (pe_callB (x := "sorted") (cr_sortI G.calm (by have := G.room.un; omega)) (gl_of G hg) (G.free _ (of_decide_eq_true hf)) (by rfl)
    (pa_cons (pe_bm0 (apos := p1) (cpos := p2) PySem.F.plainAttrs_dict PySem.F.slot_dict_items PySem.F.type_dict_items DX.mt_itemsT (ho X G) (hbase _) hline) pa_nil (he _)) (by decide) (by decide) (he _) (hpl _)).impW fun σ H Q fc ⟨z0, H0, z, ρ, E, h⟩ => ?_
  refine ⟨z0, H0, z, ρ, E, (f ρ).mono (fun d k v z1 H1 st1 fc1 r1 => ?_) h⟩
  cases d <;> try exact (show False from k).elim
  rename_i ks
  obtain ⟨a, kvs, rfl, q, r⟩ := r1.dT st1.ok
  obtain ⟨⟨so, hz⟩, k⟩ := k
  refine ⟨.inr (.inr (.inl ⟨rfl, .inr ⟨_, q⟩⟩)), a, kvs, rfl, rfl, q, fun p hp => ?_⟩
  have st2 : Step X.K z1 H1 z1 (upd H1 p (DX.itemsO p a)) := Step.fresh st1.ok hp
  refine ⟨z1, p, a, kvs, ks, st2.ok, rfl, upd_same, by rw [upd_ne (ne_of_none q hp)]; exact q, r, so, by unfold itemsT at hz; rw [List.length_map] at hz; exact hz, fun z' H2 ys l st3 ry hl fc2 => ?_⟩
  exact kF_new (k.step (st1.trans st2)) st3 fc2 hl (.lst ry)
end
end PW

set_option Elab.async false
set_option linter.all false
set_option maxRecDepth 100000
set_option maxHeartbeats 1000000
/-! dict comprehensions with tuple keys -/
namespace PW
open PySem PySem.Spec PyProof.Rows L2
/-- d[k] = v by a comprehension, k a tuple -/
theorem dT_dictSet {X : Cx} {pins : List (Addr × Obj)} {σ : Sg} {H : Hp} {s : Shared} {E : Value → Shared → Prop} {D b : Addr} {kvs : List (List Key × V)} {k : List Key} {v : V} {r : Value} {Q : Unit → Shared → Prop} (hu : X.A.units + 1 < cLine) (I : Inv X pins σ H s) (hD : H D = some (.dT kvs)) (hz : kvs.length < sizeLine)
    (hb : H b = some (.tup (k.map L2.kV))) (rv : RelV v r) (h : ∀ s', Inv X pins σ (upd H D (.dT (putK kvs k v))) s' → Q () s') : wpAny (model X.prog X.w) X.A (dictSet D (.ref b) r) Q E s := by
  obtain ⟨z, hd, xs, rel, dd⟩ := dt_of I.hok hD
  have hz' : xs.length ≤ sizeLine := by rw [← Paired.length rel]; exact z
  have hl : (putK kvs k v).length ≤ sizeLine := by have := length_putK kvs k v; omega
  refine wpAny_dictSet_heap (hsz := hz') (show (tupleKind (mixKind X.prog X.w)).room X.A from (by show X.A.units < cLine; omega)) (key_of I.hok hb) dd fun h' dd' hs => h _ ?_
  obtain ⟨q, es, ep, hq, h2, h3, h4, _, h5⟩ := dd'
  refine d_write I (by rw [hD]; exact True.intro) hs ⟨q, hq⟩ ⟨hl, hd, _, (rel.put k hb rv).keeps fun c ys ec => ?_, q, es, ep, hq, h2, h3, h4, h5⟩
  rw [upd_ne (ne_of ec hD (fun z => nomatch z))]
  exact ec
section
variable {X : Cx} {kx vx tg iter : Expr} {ifs : List Expr} {scope : Scope} {own : List (Str × Nat)} {pos : Pos} {wi : TI} {g : TG} {tt : TT} {tk tv : TE}
/-- one turn's put -/
def PutT (D : Addr) (y z : V) (H : Hp) (N : Hp → Prop) : Prop := ∃ kvs k b, y = .ref b ∧ H b = some (.tup (k.map L2.kV)) ∧ H D = some (.dT kvs) ∧ kvs.length < sizeLine ∧ N (upd H D (.dT (putK kvs k z)))
def tDcT (wi : TI) (g : TG) (tt : TT) (tk tv : TE) (vs : List Nat) : TE := fun σ H Q => wi σ H fun J H1 => ∀ D, H1 D = none → ∃ W : Nat → Nat → Hp → Prop, (∃ m, W 0 m (upd H1 D (.dT []))) ∧ ∀ i m H, W i m H →
  (J.stop i H ∧ Q (.ref D) H) ∨ (J.go i H ∧ ∃ N : Hp → Prop, (∀ H', N H' → ∃ m', m' < m ∧ W (i + 1) m' H') ∧ ∀ x H', J.yld i H x H' → g x (wipe σ vs) H' fun σ2 H2 => wipe σ2 vs = wipe σ vs ∧ tt σ2 H2 fun b H3 =>
    if b = true then tk σ2 H3 fun y H4 => tv σ2 H4 fun z H5 => PutT D y z H5 N else N H3)
/-- {k: v for ..}, the keys tuples, as a value -/
theorem pe_dcT (hc : X.calm = true) (hu : X.A.units + 1 < cLine) (hN : X.N.Nodup) (hi : PI X tg iter wi) (ok : BlkOk X.N X.env.scope scope own)
    (hg : ∀ (s : Shared) (H : Hp) (C : Addr) (cl : List (Str × Addr)) (fp : List Addr), PG (X.blk s H scope (compEnvC scope cl C X.env) fp) tg g) (ht : ∀ (s : Shared) (H : Hp) (C : Addr) (cl : List (Str × Addr)) (fp : List Addr), PTs (X.blk s H scope (compEnvC scope cl C X.env) fp) ifs tt)
    (hk : ∀ (s : Shared) (H : Hp) (C : Addr) (cl : List (Str × Addr)) (fp : List Addr), PE (X.blk s H scope (compEnvC scope cl C X.env) fp) kx tk)
    (he : ∀ (s : Shared) (H : Hp) (C : Addr) (cl : List (Str × Addr)) (fp : List Addr), PE (X.blk s H scope (compEnvC scope cl C X.env) fp) vx tv) (hs : ∀ x, foldedSetIterable iter X.env x = pure x) :
    PE X (.DictComp kx vx [⟨tg, iter, ifs, 0⟩] scope pos) (tDcT wi g tt tk tv (own.map (·.2))) := by
  refine ⟨fun pins s σ H Q I h => ?_⟩
  rw [arm_eval_DictComp]
  have hfree : ∀ y ∈ scope.names, y.2 = .free → ∃ c, X.env.cells.lookup y.1 = some c := fun y hy e => (ok.free y hy e).elim (fun k => I.ok.has _ (.inl k)) fun k => I.ok.has _ (.inr k)
  refine wpAny_comprehension_free (use := none) rfl hs (closure_ok hfree) ok.kind (fun y hy e => by rw [ok.uniq y hy, e])
    (thn (hi.run pins s σ H _ I h) fun xv s1 hx => thn hx fun itv s2 h2 => ?_)
  obtain ⟨it, fp, tn, J, H2, rfl, I2, T, t2, f2, q⟩ := h2
  refine wpAny_newObj_type (newEnv_comp ?_)
  -- the new dict and the block's own objects
  generalize hD : s2.heap.objs.size = D
  have nD : H2 D = none := I2.hok.fresh (Nat.le_of_eq hD)
  obtain ⟨W, ⟨m0, w0⟩, turn⟩ := q D nD
  generalize hs3 : ({ s2 with heap := s2.heap.push { cls := .type "dict", data := .dict #[] } } : Shared) = s3
  have eh3 : s3.heap = s2.heap.push { cls := .type "dict", data := .dict #[] } := by rw [← hs3]
  generalize hH3 : upd H2 D (.dT []) = H3 at w0
  have I3 : Inv X pins σ H3 s3 := by
    subst hs3 hH3 hD
    exact I2.laid (t' := s2.toks) (fun b o e => Heap.get?_push_of_some _ e) (Nat.le_refl _) (dt_empty s2.heap I2.big)
  have f3 : ∀ b ∈ fp, FpOk X pins H3 b ∧ b < s3.heap.objs.size := fun b hb => by
    obtain ⟨o, e, _⟩ := T.obj _ _ t2 b hb
    have hlt := Heap.lt_size e
    subst hH3
    exact ⟨⟨by rw [upd_ne (by rw [← hD]; exact Nat.ne_of_lt hlt)]; exact (f2 b hb).1, (f2 b hb).2⟩, by rw [eh3, Heap.size_push]; exact Nat.lt_succ_of_lt hlt⟩
  have t3 : tn 0 s3.heap := T.keep _ _ _ t2 fun b _ o e => by rw [eh3]; exact Heap.get?_push_of_some _ e
  have I4 := block_start I3 ok hN f3
  have pg := hg s3 H3 s3.heap.objs.size (cellsFrom (s3.heap.objs.size + 1) scope.names (cloFrom X.env.cells scope.names [])) fp
  have pt := ht s3 H3 s3.heap.objs.size (cellsFrom (s3.heap.objs.size + 1) scope.names (cloFrom X.env.cells scope.names [])) fp
  have pk := hk s3 H3 s3.heap.objs.size (cellsFrom (s3.heap.objs.size + 1) scope.names (cloFrom X.env.cells scope.names [])) fp
  have pv := he s3 H3 s3.heap.objs.size (cellsFrom (s3.heap.objs.size + 1) scope.names (cloFrom X.env.cells scope.names [])) fp
  show codeAny _ _ (.compStart (.DictComp kx vx [⟨tg, iter, ifs, 0⟩] scope pos) 0 (.ref it) (.ref D) (compEnvC scope (cellsFrom (s3.heap.objs.size + 1) scope.names (cloFrom X.env.cells scope.names [])) s3.heap.objs.size X.env)) (compPost (model X.prog X.w) X.A X.xe none _ (.ref D) s3.heap.objs.size) { s3 with heap := pushCells (s3.heap.push { cls := .type "dict", data := .dict #[] }) scope.names }
  have n3 : ∀ b ∈ fp, H3 b = none := fun b hb => (f3 b hb).1.1
  have t4 : tn 0 (pushCells (s3.heap.push { cls := .type "dict", data := .dict #[] }) scope.names) := T.keep _ _ _ t3 fun b _ o e => pushCells_keeps _ _ _ _ (Heap.get?_push_of_some _ e)
  generalize hce : compEnvC scope (cellsFrom (s3.heap.objs.size + 1) scope.names (cloFrom X.env.cells scope.names [])) s3.heap.objs.size X.env = ce at I4 pg pt pk pv ⊢
  have eL : ce.locals = s3.heap.objs.size := by subst hce; rfl
  generalize hs4 : ({ s3 with heap := pushCells (s3.heap.push { cls := .type "dict", data := .dict #[] }) scope.names } : Shared) = s4 at I4 ⊢
  have t4' : tn 0 s4.heap := by rw [← hs4]; exact t4
  -- what the walk holds on to is no object of the def's heap
  have apart : ∀ {σ' : Sg} {H' : Hp} {s' : Shared}, Inv (X.blk s3 H3 scope ce fp) [] σ' H' s' → (∀ b ∈ fp, H' b = none) → ∀ b ∈ fp, FpOk (X.blk s3 H3 scope ce fp) [] H' b := fun {σ' H' s'} J' hn b hb =>
    ⟨hn b hb, (J'.ok.exf b hb).1, J'.ok.exfs b hb, .inl hb, fun x c e => (J'.ok.exf b hb).2 x c e, fun p hp => absurd (show p ∈ ([] : List (Addr × Obj)) ++ [] from hp) (by simp)⟩
  let At : Nat → Shared → Prop := fun n s' => ∃ i H', Inv (X.blk s3 H3 scope ce fp) [] (wipe σ (own.map (·.2))) H' s' ∧ tn i s'.heap ∧ (∀ b ∈ fp, H' b = none) ∧ W i n H'
  have loop : codeAny (model X.prog X.w) X.A (.compLoop (.DictComp kx vx [⟨tg, iter, ifs, 0⟩] scope pos) 0 (.ref it) (.ref D) ce) (compPost (model X.prog X.w) X.A X.xe none (fun v s' => ∃ x H', Inv X pins σ H' s' ∧ RelV x v ∧ Q x H') (.ref D) s3.heap.objs.size) s4 := by
    refine compLoop_anyD At ?_ m0 ⟨0, H3, I4, t4', n3, w0⟩
    rintro n s5 ⟨i, H5, I5, t5, n5, w5⟩
    rcases turn i n H5 w5 with ⟨stop, qq⟩ | ⟨go, N, hN', step⟩
    · refine thnF (T.done (X.blk s3 H3 scope ce fp) rfl rfl rfl hc i [] s5 _ H5 (fun _ _ => False) I5 (apart I5 n5) t5 stop) fun r s6 ⟨hr, I6⟩ => ?_
      subst hr
      have I7 : Inv X pins σ H5 s6 := I3.call' (ch := fp) I6.os I6.base I6.hok I6.bare fun b hb => ⟨(f3 b hb).1.2.2.2.1, (f3 b hb).1.2.1, (f3 b hb).1.2.2.2.2.1, (f3 b hb).1.2.2.2.2.2⟩
      have nL : H5 s3.heap.objs.size = none := by rw [← eL]; exact I6.free
      obtain ⟨m, hm, _⟩ := I6.loc
      have hm : s6.heap.Ns s3.heap.objs.size m := by rw [← eL]; exact hm
      obtain ⟨g0, g1, g2, g3, g4, g5⟩ := I3.fpOk (Nat.le_refl _) nL
      exact ⟨m, hm, fun h'' sb => ⟨.ref D, H5, I7.turned (t' := s6.toks) (fun b o hb e => (sb.2 b hb).trans e) nL g1 g3 g4 g5, rfl, qq⟩⟩
    · refine thnF (T.item (X.blk s3 H3 scope ce fp) rfl rfl rfl hc i [] s5 _ H5 (fun _ _ => False) I5 (apart I5 n5) t5 go) fun r s6 ⟨u, hr, h6⟩ => ?_
      subst hr
      refine thnF h6 fun _ s7 ⟨x, H7, I7, r7, y7, t7, n7⟩ => ?_
      refine thnF (pg.run _ s7 _ H7 x u _ (I7.pinned (apart I7 n7) (T.obj _ _ t7)) r7 (step x H7 y7)) fun _ s8 ⟨σ8, H8, I8, hw8, q8⟩ => ?_
      have fin : ∀ {s' : Shared} {H' : Hp}, Inv (X.blk s3 H3 scope ce fp) ([] ++ pinsAt fp s7.heap) σ8 H' s' → N H' → ∃ m, m < n ∧ At m s' := fun {s' H'} J' nx => by
        obtain ⟨m', hm, w'⟩ := hN' H' nx
        have held : ∀ b ∈ fp, ∀ o, s7.heap.get? b = some o → s'.heap.get? b = some o ∧ H' b = none := fun b hb o e =>
          have z := J'.pin (b, o) (List.mem_append_right _ (List.mem_append_right _ (mem_pinsAt hb e)))
          ⟨z.1, z.2.1⟩
        refine ⟨m', hm, i + 1, H', (J'.unpinned (pins := [])).weak (by rw [← hw8, wipe_length]) (fun j v e => ?_), T.keep _ _ _ t7 fun b hb o e => (held b hb o e).1, fun b hb => ?_, w'⟩
        · rw [← hw8] at e
          exact (wipe_some e).1
        · obtain ⟨o, e, _⟩ := T.obj _ _ t7 b hb
          exact (held b hb o e).2
      refine thnF (pt.run _ s8 σ8 H8 _ I8 q8) fun b s9 ⟨H9, I9, q9⟩ => ?_
      cases b with
      | false =>
        simp only [Bool.false_eq_true, if_false] at q9 ⊢
        exact fin I9 q9
      | true =>
        simp only [if_true] at q9 ⊢
        refine thnF (pk.run _ s9 σ8 H9 _ I9 q9) fun z s10 ⟨yk, H10, I10, r10, q10⟩ => ?_
        refine thnF (pv.run _ s10 σ8 H10 _ I10 q10) fun z2 s11 ⟨yv, H11, I11, r11, kvs, k, b, ek, hb, hD11, hz11, nx⟩ => ?_
        subst ek
        cases r10
        exact dT_dictSet (X := X.blk s3 H3 scope ce fp) hu I11 hD11 hz11 hb r11 fun s12 I12 => fin I12 nx
  exact codeAny_compStart_dict loop (T.self X.A 0 _ _ _ t4' loop)
end
/-! ### {k: v for t in ds if p}, k a tuple -/
/-- a tuple of ints and texts -/
def tupKey : D → Option (List Key)
  | .tup xs => asKeys xs
  | _ => none
def dcompT (t : Tgt) (p : Env → W Bool) (fk fv : Env → W D) : List D → Env → List (List Key × D) → W (List (List Key × D))
  | [], _, acc => W.pure acc
  | d :: ds, ρ, acc => (t.set d ρ).bind fun ρ' => (p ρ').bind fun b => if b = true then (fk ρ').bind fun k => (fv ρ').bind fun v => (W.some? (tupKey k)).bind fun k => (W.need (acc.length < sizeLine)).bind fun _ => dcompT t p fk fv ds ρ (putD acc k v) else dcompT t p fk fv ds ρ acc
structure DSU (mt : Mt) (K : PySem.W.Frag) (mg : Str → Option Value) (z0 : Z) (H0 : Hp) (zb : Z) (Hb : Hp) (z1 : Z) (Dl : Addr) (σ : Sg) (ρ : Env) (acc : List (List Key × D)) (z' : Z) (H' : Hp) : Prop where
  env : EnvR mt K mg z0 H0 z' H' σ ρ
  le : Z.le z1 z'
  st : Step K zb Hb z' H'
  f0 : z'.f Dl = none
  nβ : ¬ z'.β Dl
  own : ∀ i d, i ∈ mt → ρ[i]? = some (some d) → σ[i]? ≠ some (some (.ref Dl))
  h0 : fr H0 Dl
  hb : fr Hb Dl
  at_ : ∃ av, H' Dl = some (.dT av) ∧ RpT K mg z' av acc
section
variable {K : PySem.W.Frag} {mg : Str → Option Value} {z z' z0 z1 zb : Z} {H H' H0 Hb : Hp} {Dl : Addr} {mt : Mt} {σ : Sg} {ρ : Env} {acc : List (List Key × D)}
theorem DSU.step {z'' : Z} {H'' : Hp} (c : DSU mt K mg z0 H0 zb Hb z1 Dl σ ρ acc z' H') (s : Step K z' H' z'' H'') : DSU mt K mg z0 H0 zb Hb z1 Dl σ ρ acc z'' H'' := by
  obtain ⟨av, q, r⟩ := c.at_
  refine ⟨c.env.step s, c.le.trans s.le, c.st.trans s, s.new _ _ c.f0 q trivial, fun e => ?_, c.own, c.h0, c.hb, av, s.keep _ _ c.nβ q trivial, r.le s.le⟩
  rcases s.βn _ e with e | e
  · exact c.nβ e
  · exact e _ q trivial
theorem DSU.push {v : V} {d : D} (k : List Key) (c : DSU mt K mg z0 H0 zb Hb z1 Dl σ ρ acc z' H') (r : Rp K mg z' v d) : ∃ av, H' Dl = some (.dT av) ∧ av.length = acc.length ∧ DSU mt K mg z0 H0 zb Hb z1 Dl σ ρ (putD acc k d) z' (upd H' Dl (.dT (putK av k v))) := by
  obtain ⟨av, q, ra⟩ := c.at_
  exact ⟨av, q, ra.length, c.env.other c.h0 c.f0 c.nβ c.own, c.le, c.st.other c.hb c.f0 c.nβ, c.f0, c.nβ, c.own, c.h0, c.hb, _, upd_same, ra.put r⟩
theorem DSU.begin (E : EnvR mt K mg z0 H0 zb Hb σ ρ) (st : Step K zb Hb z1 H) (hd : H Dl = none) : DSU mt K mg z0 H0 zb Hb z1 Dl σ ρ [] z1 (upd H Dl (.dT [])) := by
  have E1 := E.step st
  exact ⟨E1.step (Step.fresh st.ok hd), Z.le.refl _, st.trans (Step.fresh st.ok hd), st.ok.free hd, st.ok.nβ hd, E1.nown hd, E1.st.was hd, st.was hd, [], upd_same, .nil⟩
theorem DSU.fin {Q : VK} (c : DSU mt K mg z0 H0 zb Hb z1 Dl σ ρ acc z' H') (fc : Fct K H') (k : kF K mg zb Hb Q (.dT acc)) : Q (.ref Dl) H' := by
  obtain ⟨av, q, r⟩ := c.at_
  exact k Dl _ z' H' c.st fc c.hb c.f0 c.nβ q (.dT r)
end
section
variable {M : Mo} {S : Fix} {tg iter kx vx : Expr} {ifs : List Expr} {scope : Scope} {pos : Pos} {fi : Env → W (List D)} {t : Tgt} {p : Env → W Bool} {fk fv : Env → W D}
def dcTW (fi : Env → W (List D)) (t : Tgt) (p : Env → W Bool) (fk fv : Env → W D) (vs : List Nat) : Env → W D := fun ρ => (fi ρ).bind fun ds => (dcompT t p fk fv ds (wipeE ρ vs) []).bind fun r => W.pure (.dT r)
theorem dcT_read {K : PySem.W.Frag} {mg : Str → Option Value} {mt : Mt} (vs : List Nat) (hsub : ∀ j ∈ t.slots, j ∈ vs) {σ : Sg} {H : Hp} {Q : VK} (hh : tFr K mg mt (dcTW fi t p fk fv vs) σ H Q) :
    tDcT (tI K mg mt fi) (tG K mg mt t) (tTs K mg mt p) (tV K mg mt fk) (tV K mg mt fv) vs σ H (fun v H' => Fct K H' → Q v H') := by
  obtain ⟨z0, H0, z, ρ, E, h⟩ := hh
  refine ⟨z0, H0, z, ρ, E, (fi ρ).mono (fun ds k J z1 H1 st1 fc1 wk => fun Dl hDl => ?_) h⟩
  obtain ⟨⟨n, Gp, Y, wlk, hn, hG, hY⟩, hsz⟩ := wk
  refine ⟨fun i m H' => m = n - i ∧ i ≤ n ∧ ∃ acc z', DSU mt K mg z0 H0 z H z1 Dl (wipe σ vs) (wipeE ρ vs) acc z' H' ∧
    (dcompT t p fk fv (ds.drop i) (wipeE ρ vs) acc).run fun r => kF K mg z H Q (.dT r), ⟨n, by simp, Nat.zero_le _, [], z1, DSU.begin (E.wipe vs) st1 hDl, k⟩, ?_⟩
  rintro i m H' ⟨rfl, hi', acc, z', c, q⟩
  have hGH := hG z' H' c.le c.st.ok
  by_cases hlt : i < n
  · refine .inr ⟨wlk.goes i H' hlt hGH, fun H' => ∃ acc z', DSU mt K mg z0 H0 z H z1 Dl (wipe σ vs) (wipeE ρ vs) acc z' H' ∧ (dcompT t p fk fv (ds.drop (i + 1)) (wipeE ρ vs) acc).run fun r => kF K mg z H Q (.dT r),
      fun H' hx => ⟨n - (i + 1), by omega, rfl, hlt, hx⟩, fun x H'' y => ?_⟩
    obtain ⟨z'', d, ed, st, r⟩ := hY i H' x H'' z' c.le c.st.ok hlt (wlk.yields i H' x H'' hlt hGH y)
    rw [drop_get ed] at q
    have c2 := c.step st
    refine ⟨z0, H0, z'', _, d, c2.env, r, (t.set d _).mono (fun ρ' k σ' E' w' m' => ⟨(w' vs hsub).trans wipe_wipe, z0, H0, z'', ρ', E', (p ρ').mono (fun b k z3 H3 st3 fc3 => ?_) k⟩) q⟩
    cases b with
    | false =>
      rw [if_neg Bool.false_ne_true]
      exact ⟨acc, z3, c2.step st3, k⟩
    | true =>
      rw [if_pos rfl]
      refine ⟨z0, H0, z3, ρ', E'.step st3, (fk ρ').mono (fun y k v z4 H4 st4 fc4 r4 => ?_) k⟩
      refine ⟨z0, H0, z4, ρ', (E'.step st3).step st4, (fv ρ').mono (fun y2 k v2 z5 H5 st5 fc5 r5 => ?_) k⟩
      obtain ⟨key, e3, hz, kk⟩ := some_run k
      obtain ⟨av, e1, e2, c3⟩ := (((c2.step st3).step st4).step st5).push key r5
      cases y <;> try exact nomatch (show none = some key from e3)
      cases r4 with
      | tup hf rl =>
        have hf' := (st5.le.f _ _ hf)
        rw [asKeys_eq rl e3] at hf'
        exact ⟨av, key, _, rfl, st5.ok.sub _ _ hf', e1, by rw [e2]; exact hz, _, z5, c3, kk⟩
  · have e : i = n := by omega
    subst e
    rw [hn, List.drop_length] at q
    exact .inl ⟨wlk.stops H' hGH, fun fc' => c.fin fc' q⟩
theorem f_dcT (own : List (Str × Nat)) (hi : EvI M S tg iter fi) (hg : EvG M.nox (S.blk scope) tg t) (ht : EvTs M.nox (S.blk scope) ifs p) (hk : EvV M.nox (S.blk scope) kx fk) (hv : EvV M.nox (S.blk scope) vx fv) (hok : blkC S.N S.sc scope own = true := by kernel_rfl)
    (hsl : (t.slots.all fun j => (own.map (·.2)).contains j) = true := by kernel_rfl) (hs : ∀ env x, foldedSetIterable iter env x = pure x := by intro _ _; kernel_rfl) :
    EvF M S (.DictComp kx vx [⟨tg, iter, ifs, 0⟩] scope pos) (dcTW fi t p fk fv (own.map (·.2))) := fun X G =>
  (pe_dcT (own := own) (g := tG X.K X.mg G.m t) (tt := tTs X.K X.mg G.m p) (tk := tV X.K X.mg G.m fk) (tv := tV X.K X.mg G.m fv) G.calm (by have := G.room.un; omega) (by rw [G.N]; exact G.nd) (hi X G) (blkOk_by (by rw [G.N, G.sc]; exact hok)) (fun s H C cl fp => hg _ (G.blk s H scope C cl fp)) (fun s H C cl fp => ht _ (G.blk s H scope C cl fp))
    (fun s H C cl fp => hk _ (G.blk s H scope C cl fp)) (fun s H C cl fp => hv _ (G.blk s H scope C cl fp)) (hs _)).impW fun σ H Q fc h => dcT_read _ (fun j hj => List.contains_iff_mem.mp (List.all_eq_true.mp hsl j hj)) h
end

end PW

set_option Elab.async false
set_option linter.all false
set_option maxRecDepth 100000
set_option maxHeartbeats 1000000
/-! {(a, b): v}: a display of one pair, its key a tuple; x = y.pop() and a, b = y.pop() -/
namespace PW
open PySem PySem.Spec PyProof.Rows L2
def tDisp1T (tk tv : TE) : TE := fun σ H Q => ∀ p, H p = none → tk σ (upd H p (.dT [])) fun x H1 => tv σ H1 fun y H2 => H2 p = some (.dT []) ∧ ∃ k b, x = .ref b ∧ H2 b = some (.tup (k.map L2.kV)) ∧ Q (.ref p) (upd H2 p (.dT [(k, y)]))
theorem pe_disp1T {X : Cx} {pos : Pos} {k v : Expr} {tk tv : TE} (hu : X.A.units + 1 < cLine) (hk : PE X k tk) (hv : PE X v tv) : PE X (.Dict [some k] [v] pos) (tDisp1T tk tv) := by
  refine ⟨fun pins s σ H Q I q => ?_⟩
  have hn := I.hok.fresh (Nat.le_refl s.heap.objs.size)
  have I1 := I.laid (a := s.heap.objs.size) (o := .dT []) (h' := s.heap.push { cls := .type "dict", data := .dict #[] }) (t' := s.toks) (fun _ _ q => Heap.get?_push_of_some _ q) (Nat.le_refl _) (dt_empty s.heap I.big)
  rw [arm_eval_Dict, zip_pairTrees [some k] [v] X.env pos rfl rfl, dictDisplay_pairs (pairTrees [some k] [v] X.env pos) (by simp [pairTrees]) (by rw [pairTrees_length [some k] [v] X.env pos rfl rfl]; show 1 < 17; omega)]
  refine wpAny_bind (wpAny_standAt (wpAny_bind (wpAny_subDictH (knd := tupleKind (mixKind X.prog X.w)) (show (tupleKind (mixKind X.prog X.w)).room X.A from (by show X.A.units < cLine; omega)) (by rw [pairTrees_length [some k] [v] X.env pos rfl rfl]; show 1 ≤ 15; omega) ?_)))
  refine pairTrees_cons_walk (thn (hk.run pins _ σ _ _ I1 (q _ hn)) fun u s1 ⟨x, H1, I2, rx, q1⟩ => thn (hv.run pins s1 σ H1 _ I2 q1) fun w2 s2 ⟨y, H2, I3, ry, e, ks, b, ex, hb, q2⟩ => pairTrees_nil_walk ?_)
  subst ex
  cases rx
  obtain ⟨z, hd, ws, rel, dd⟩ := dt_of I3.hok e
  cases rel
  refine ⟨[(ks, b, w2)], ⟨rfl, rfl, key_of I3.hok hb, trivial⟩, dd, fun h' tk dd' hs => ?_⟩
  obtain ⟨o, es, ep, hq, h2, h3, h4, _, h5⟩ := dd'
  refine wpAny_pure ⟨.ref s.heap.objs.size, _, d_write (ob := .dT [(ks, y)]) I3 (by rw [e]; exact True.intro) hs ⟨o, hq⟩ ⟨by rw [sizeLine_eq]; show 1 ≤ 16777216; omega, hd, [(ks, b, w2)], .cons ⟨rfl, ?_, ry⟩ .nil, o, es, ep, hq, h2, h3, h4, h5⟩, rfl, q2⟩
  show upd H2 s.heap.objs.size _ b = some (.tup (ks.map L2.kV))
  rw [upd_ne (ne_of hb e (fun z => nomatch z))]
  exact hb
section
variable {M : Mo} {S : Fix} {k v : Expr} {f g : Env → W D} {pos : Pos}
theorem f_disp1T (hk : EvV M S k f) (hv : EvV M S v g) : EvF M S (.Dict [some k] [v] pos) fun ρ => (f ρ).bind fun x => (g ρ).bind fun y => (W.some? (tupKey x)).bind fun ks => W.pure (.dT [(ks, y)]) := fun X G => by
  refine (pe_disp1T (by have := G.room.un; omega) (hk X G) (hv X G)).impW fun σ H Q fc ⟨z0, H0, z, ρ, E, h⟩ => fun p hp => ?_
  have st0 : Step X.K z H z (upd H p (.dT [])) := Step.fresh E.ok hp
  refine ⟨z0, H0, z, ρ, E.step st0, (f ρ).mono (fun xd k v z1 H1 st1 fc1 r1 => ?_) h⟩
  refine ⟨z0, H0, z1, ρ, (E.step st0).step st1, (g ρ).mono (fun yd k v2 z2 H2 st2 fc2 r2 => ?_) k⟩
  obtain ⟨ks, e3, kk⟩ := some_run k
  have nβ0 : ¬ z.β p := E.ok.nβ hp
  have st12 := st1.trans st2
  have hp2 : H2 p = some (.dT []) := st12.keep _ _ nβ0 upd_same trivial
  have fp2 : z2.f p = none := st12.new _ _ (E.ok.free hp) upd_same trivial
  have nβ2 : ¬ z2.β p := fun e => by
    rcases st12.βn _ e with e | e
    · exact nβ0 e
    · exact e _ upd_same trivial
  cases xd <;> try exact nomatch (show none = some ks from e3)
  cases r1 with
  | tup hf rl =>
    rw [asKeys_eq rl e3] at hf
    refine ⟨hp2, ks, _, rfl, st2.ok.sub _ _ (st2.le.f _ _ hf), fun fc3 => ?_⟩
    have st3 : Step X.K z H z2 (upd H2 p (.dT [(ks, v2)])) := (st0.trans st12).other (fr_of hp) fp2 nβ2
    exact kk p _ z2 _ st3 fc3 (fr_of hp) fp2 nβ2 upd_same (.dT (.cons r2 .nil))
end

section
variable {M : Mo} {S : Fix} {tg : Expr} {t : Tgt} {pos : Pos}
theorem RpL.dropLast {K : PySem.W.Frag} {mg : Str → Option Value} {z : Z} : ∀ {v : List V} {d : List D}, RpL K mg z v d → RpL K mg z v.dropLast d.dropLast
  | _, _, .nil => .nil
  | _, _, .cons _ .nil => .nil
  | _, _, .cons h (.cons h2 r) => .cons h (RpL.dropLast (.cons h2 r))
/-- target = y.pop(), y an own list -/
theorem s_asgPop (j : Nat) {y : Str} {q1 q2 q3 : Pos} (hg : EvG M S tg t) (hN2 : S.N[j]? = some y := by kernel_rfl) (hv2 : visC S.sc y = true := by kernel_rfl) (hj : S.mt.contains j = true := by kernel_rfl)
    (hd2 : (y == ("__debug__" : Str)) = false := by kernel_rfl) (hcd2 : (y == ("__classdict__" : Str)) = false := by kernel_rfl)
    (hbase2 : ∀ env, attributeBase (.Name y q1) "pop" env (eval (.Name y q1) env) = eval (.Name y q1) env := by intro _; kernel_rfl) (hline2 : (q2.endLine == q3.line) = true := by kernel_rfl)
    (hs : ∀ env : PySem.Env, env.scope = S.sc → swapsWithSole [tg] (.Call (.Attribute (.Name y q1) "pop" q2) [] [] q3) pos.line env = pure false := by intro env he; cases env; cases he; kernel_rfl) (hw : ∀ env : PySem.Env, env.scope = S.sc → swappedStores [tg] (.Call (.Attribute (.Name y q1) "pop" q2) [] [] q3) env = pure none := by intro env he; cases env; cases he; kernel_rfl)
    (h1 : ∀ env, (assignEach [tg] env).map (·.2) = [assign tg env] := by intro _; kernel_rfl) :
    EvS M S (.Assign [tg] (.Call (.Attribute (.Name y q1) "pop" q2) [] [] q3) pos) fun ρ => (getV ρ j).bind fun m => m.asLst.bind fun ys => (W.some? ys.getLast?).bind fun d => (t.set d (ρ.set j (some (.lst ys.dropLast)))).bind fun ρ' => W.pure (.nx ρ') := fun X G => by
  refine (ps_asg (pe_bm0 (apos := q2) (cpos := q3) PySem.F.plainAttrs_list PySem.F.slot_list_pop PySem.F.type_list_pop mt_pop (pe_var (pos := q1) (i := j) (by rw [G.N]; exact hN2) (by rw [G.sc]; exact vis_of hv2) hd2 hcd2) (hbase2 _) hline2) (hg X G) (hs _ G.sc) (hw _ G.sc) (h1 _)).impW fun D σ H fc ⟨z0, H0, z, ρ, E, h⟩ => ?_
  obtain ⟨m, e1, k⟩ := getV_run h
  obtain ⟨ys, rfl, k⟩ := asLst_run k
  have hm := List.contains_iff_mem.mp hj
  obtain ⟨b, us, e2, hβ, q, r⟩ := own_lst E hm e1
  obtain ⟨u, hu, k⟩ := some_run k
  have hu' : ys[ys.length - 1]? = some u := by rw [← List.getLast?_eq_getElem?]; exact hu
  have hl : us.length = ys.length := r.length
  obtain ⟨w, hw, rw'⟩ := r.get hu'
  refine ⟨_, e2, .inl ⟨rfl, us, .of q⟩, b, us, w, rfl, rfl, q, by rw [hl]; exact hw, ?_⟩
  have E2 := E.chg hm e1 e2 (o := .lst us.dropLast) (d' := .lst ys.dropLast) (.lst r.dropLast)
  exact ⟨z0, H0, z, _, u, E2, rw', (t.set u _).mono (fun ρ' k2 σ' E' _ _ => fun _ => k2 σ' z _ (Z.le.refl z) E') k⟩
end
end PW

set_option Elab.async false
set_option linter.all false
set_option maxRecDepth 100000
set_option maxHeartbeats 4000000
namespace P98
open PySem PySem.Spec PyProof.Rows L2 PW
def free : List Str := ["isinstance", "all", "zip", "range", "min", "max", "len", "tuple", "list", "sorted", "enumerate", "sum", "any", "int", "abs", "set", "dict", "str", "bool", "repr", "super"]
def cons : List (Str × D) := [("MEMBER", .str "member"), ("EITHER", .str "either"), ("GUEST", .str "guest"), ("STRANGER", .str "stranger"), ("KNOW", .str "know")]
def xcs : List (Str × List Str) := [("Refused", ["why"])]
def hds : List (Str × HSh) := [("_law_heard", ⟨"told", "Refused", "refused", "why"⟩)]
noncomputable section
def F__law_bag (_ : Eps) : List D → W D
  | [.scr] => W.pure .bag
  | _ => W.fail
def F__law_take (_ : Eps) : List D → W D
  | [.bag, .int n] => (W.need (1 ≤ n ∧ n < 1073741824)).bind fun _ => W.fa (fun k : Int => 0 ≤ k ∧ k < n) fun k => .int k
  | _ => W.fail

/-! _law_bag -/
abbrev M__law_bag (ε : Eps) : Mo := mo [] 0 free cons xcs hds false false ε
def S__law_bag : Fix := ⟨["script", "cell"], C8.fnScope (st 46), fun _ => true, []⟩
def B__law_bag (ε : Eps) : { w : PW.Env → W Out // EvSs (M__law_bag ε) S__law_bag (C8.fnBody (st 46)) w } := ⟨_,
  (ss_one (s_ret (v_newbag (av_cons v_int (av_cons v_int (av_cons v_int (av_cons (f_lc [("cell", 1)] (i_val (v_scr63 (v_var 0).toB)) (g_nm 1) ts_nil (v_callB c_abs (ab_cons (v_var 1).toB ab_nil))).toV av_nil)))))))⟩
def G__law_bag (ε : Eps) : List D → W D := defW 1 2 (B__law_bag ε).1
/-! _law_take -/
abbrev M__law_take (ε : Eps) : Mo := mo [] 0 free cons xcs hds false false ε
def S__law_take : Fix := ⟨["bag", "many", "cell", "stirred", "value", "begin", "second"], C8.fnScope (st 47), fun _ => true, []⟩
def B__law_take (ε : Eps) : { w : PW.Env → W Out // EvSs (M__law_take ε) S__law_take (C8.fnBody (st 47)) w } := ⟨_,
  (ss_cons (s_if (t_cmp o_eq (v_bagI (.inl rfl) (v_var 0).toB).toB v_int.toB) (ss_cons (s_set 2 (v_ix (v_bin o_add (v_slice (v_bagC (v_var 0).toB).toB (p_some (v_bagI (.inr (.inr rfl)) (v_var 0).toB)) p_none).toB (f_lst (av_cons v_int av_nil)).toV.toB).toB v_int))
  (ss_cons (s_bagaug (v_var 0).toB v_int)
  (ss_cons (s_if (t_cmp o_ge (v_var 2).toB (PW.v_pow ⟨by decide, by decide, by decide⟩).toB) (ss_one (s_bagset (.inl rfl) (v_var 0).toB (v_var 2))) ss_nil)
  (ss_cons (s_set 3 (v_bin o_add (v_bin o_add (v_bin o_mul (v_bagI (.inr (.inl rfl)) (v_var 0).toB).toB v_int.toB).toB (v_bin o_mod (v_callT c_int (ab_cons (v_var 2).toB ab_nil)).toB v_int.toB).toB).toB (v_bin o_mul v_int.toB (v_bagI (.inr (.inr rfl)) (v_var 0).toB).toB).toB))
  (ss_one (s_bagset (.inr (.inl rfl)) (v_var 0).toB (v_bin o_mod (v_callT c_int (ab_cons (v_var 3).toB ab_nil)).toB v_int.toB))))))) ss_nil)
  (ss_cons (s_if (t_cmp o_gt (v_bagI (.inl rfl) (v_var 0).toB).toB v_int.toB) (ss_cons (s_set 4 (v_bin o_mod (v_callT c_int (ab_cons (v_bagI (.inl rfl) (v_var 0).toB).toB ab_nil)).toB (v_var 1).toB))
  (ss_cons (s_bagset (.inl rfl) (v_var 0).toB (v_bin o_fdiv (v_callT c_int (ab_cons (v_bagI (.inl rfl) (v_var 0).toB).toB ab_nil)).toB (v_var 1).toB))
  (ss_one (s_ret (v_var 4))))) ss_nil)
  (ss_cons (s_set 5 (v_bin o_mod (v_callT c_int (ab_cons (v_bin o_mul (v_bin o_add (v_bagI (.inr (.inl rfl)) (v_var 0).toB).toB v_int.toB).toB v_int.toB).toB ab_nil)).toB v_int.toB))
  (ss_cons (s_set 6 (v_bin o_mod (v_callT c_int (ab_cons (v_bin o_mul (v_bin o_mod (v_callT c_int (ab_cons (v_bin o_mul (v_var 5).toB (v_var 5).toB).toB ab_nil)).toB v_int.toB).toB v_int.toB).toB ab_nil)).toB v_int.toB))
  (ss_one (s_ret (v_bin o_mod (v_callT c_int (ab_cons (v_bin o_fdiv (v_var 6).toB v_int.toB).toB ab_nil)).toB (v_var 1).toB)))))))⟩
def G__law_take (ε : Eps) : List D → W D := defW 2 7 (B__law_take ε).1
/-! _law_some -/
abbrev M__law_some (ε : Eps) : Mo := mo [("_law_take", F__law_take)] 1 free cons xcs hds false false ε
def S__law_some : Fix := ⟨["bag", "things"], C8.fnScope (st 48), fun _ => true, []⟩
def B__law_some (ε : Eps) : { w : PW.Env → W Out // EvSs (M__law_some ε) S__law_some (C8.fnBody (st 48)) w } := ⟨_,
  (ss_one (s_ret (v_ix (v_var 1).toB (v_call 0 (av_cons (v_var 0) (av_cons (v_callB c_len (ab_cons (v_var 1).toB ab_nil)) av_nil))))))⟩
def F__law_some (ε : Eps) : List D → W D := defW 2 2 (B__law_some ε).1
/-! _law_lots -/
abbrev M__law_lots (ε : Eps) : Mo := mo [] 0 free cons xcs hds false false ε
def S__law_lots : Fix := ⟨["many", "found", "one", "lot"], C8.fnScope (st 52), fun _ => true, []⟩
def B__law_lots (ε : Eps) : { w : PW.Env → W Out // EvSs (M__law_lots ε) S__law_lots (C8.fnBody (st 52)) w } := ⟨_,
  (ss_cons (s_set 1 (f_lst (av_cons (v_tup av_nil) av_nil)).toV)
  (ss_cons (s_for (i_range1 (ab_cons (v_var 0).toB ab_nil)) (g_nm 2) (ss_one (s_set 1 (v_bin o_add (v_var 1).toB (f_lc [("lot", 3)] (i_val (v_var 1)) (g_nm 3) ts_nil (v_bin o_add (v_var 3).toB (v_tup (av_cons (v_var 2) av_nil)).toB)).toV.toB))))
  (ss_one (s_ret (f_callB c_sorted (ab_cons (v_var 1).toB ab_nil)).toV))))⟩
def F__law_lots (ε : Eps) : List D → W D := defW 1 4 (B__law_lots ε).1
/-! _law_couples -/
abbrev M__law_couples (ε : Eps) : Mo := mo [] 0 free cons xcs hds false false ε
def S__law_couples : Fix := ⟨["many", "found", "a", "b"], C8.fnScope (st 51), fun _ => true, [1]⟩
def B__law_couples (ε : Eps) : { w : PW.Env → W Out // EvSs (M__law_couples ε) S__law_couples (C8.fnBody (st 51)) w } := ⟨_,
  (ss_cons (s_setF 1 (f_lst av_nil))
  (ss_cons (s_for (i_range1 (ab_cons (v_var 0).toB ab_nil)) (g_nm 2) (ss_one (s_extend 1 (f_lc [("b", 3)] (i_range2 (ab_cons (v_bin o_add (v_var 2).toB v_int.toB).toB (ab_cons (v_var 0).toB ab_nil))) (g_nm 3) ts_nil (v_tup (av_cons (v_var 2) (av_cons (v_var 3) av_nil)))).toV.toB)))
  (ss_one (s_retM 1))))⟩
def F__law_couples (ε : Eps) : List D → W D := defW 1 4 (B__law_couples ε).1
/-! _law_parted -/
abbrev M__law_parted (ε : Eps) : Mo := mo [("_law_take", F__law_take), ("_law_some", F__law_some), ("_law_lots", F__law_lots), ("_law_couples", F__law_couples)] 2 free cons xcs hds false false ε
def S__law_parted : Fix := ⟨["bag", "most", "many", "lot", "known", "a", "b", "both"], C8.fnScope (st 58), fun _ => true, []⟩
def B__law_parted (ε : Eps) : { w : PW.Env → W Out // EvSs (M__law_parted ε) S__law_parted (C8.fnBody (st 58)) w } := ⟨_,
  (ss_cons (s_set 2 (v_bin o_add v_int.toB (v_call 0 (av_cons (v_var 0) (av_cons (v_var 1) av_nil))).toB))
  (ss_cons (s_set 3 (v_call 1 (av_cons (v_var 0) (av_cons (v_call 2 (av_cons (v_var 2) av_nil)) av_nil))))
  (ss_cons (s_set 4 (f_lst av_nil).toV)
  (ss_cons (s_for (i_val (v_call 3 (av_cons (v_var 2) av_nil))) (g_tp (gs_cons (g_nm 5) (gs_cons (g_nm 6) gs_nil))) (ss_cons (s_set 7 (v_bin o_add (v_callT c_int (ab_cons (v_cmp1 o_in (v_var 5) (v_var 3).toB).toB ab_nil)).toB (v_callT c_int (ab_cons (v_cmp1 o_in (v_var 6) (v_var 3).toB).toB ab_nil)).toB))
  (ss_one (s_set 4 (v_bin o_add (v_var 4).toB (v_bin o_mul (f_lst (av_cons (v_tup (av_cons (v_var 5) (av_cons (v_var 6) av_nil))) av_nil)).toV.toB (v_callT c_int (ab_cons (v_or (v_cmp o_eq (v_var 7).toB v_int.toB) (v_one (v_and (v_cmp o_eq (v_var 7).toB v_int.toB) (v_one (v_cmp o_eq (v_call 0 (av_cons (v_var 0) (av_cons v_int av_nil))).toB v_int.toB))))).toB ab_nil)).toB).toB)))))
  (ss_one (s_ret (v_tup (av_cons (v_tup (av_cons (v_var 2) (av_cons (v_callT c_tuple (ab_cons (v_var 4).toB ab_nil)) av_nil))) (av_cons (v_var 3) av_nil)))))))))⟩
def F__law_parted (ε : Eps) : List D → W D := defW 2 8 (B__law_parted ε).1
/-! _law_table -/
abbrev M__law_table (ε : Eps) : Mo := mo [("_law_parted", F__law_parted), ("_law_take", F__law_take), ("_law_couples", F__law_couples)] 3 free cons xcs hds false false ε
def S__law_table : Fix := ⟨["bag", "most", "table", "lot", "way", "chance", "couple"], C8.fnScope (st 59), fun _ => true, []⟩
def B__law_table (ε : Eps) : { w : PW.Env → W Out // EvSs (M__law_table ε) S__law_table (C8.fnBody (st 59)) w } := ⟨_,
  (ss_cons (s_asg (v_call 0 (av_cons (v_var 0) (av_cons (v_var 1) av_nil))) (g_tp (gs_cons (g_nm 2) (gs_cons (g_nm 3) gs_nil))))
  (ss_cons (s_set 4 (v_call 1 (av_cons (v_var 0) (av_cons v_int av_nil))))
  (ss_cons (s_if (t_cmp o_lt (v_var 4).toB v_int.toB) (ss_one (s_ret (v_var 2))) ss_nil)
  (ss_cons (s_set 5 (v_if (t_cmp o_eq (v_var 4).toB v_int.toB) v_int v_int))
  (ss_one (s_ret (v_tup (av_cons (v_ix (v_var 2).toB v_int) (av_cons (v_callT c_tuple (ab_cons (f_lc [("couple", 6)] (i_val (v_call 2 (av_cons (v_ix (v_var 2).toB v_int) av_nil))) (g_nm 6) (ts_one (t_cmp o_ne (v_cmp1 o_in (v_var 6) (v_ix (v_var 2).toB v_int).toB).toB (v_cmp o_eq (v_call 1 (av_cons (v_var 0) (av_cons (v_var 5) av_nil))).toB v_int.toB).toB)) (v_var 6)).toV.toB ab_nil)) av_nil)))))))))⟩
def F__law_table (ε : Eps) : List D → W D := defW 2 7 (B__law_table ε).1
/-! _law_mixed -/
abbrev M__law_mixed (ε : Eps) : Mo := mo [("_law_take", F__law_take)] 1 free cons xcs hds false false ε
def S__law_mixed : Fix := ⟨["bag", "things", "left", "found"], C8.fnScope (st 49), fun _ => true, [2, 3]⟩
def B__law_mixed (ε : Eps) : { w : PW.Env → W Out // EvSs (M__law_mixed ε) S__law_mixed (C8.fnBody (st 49)) w } := ⟨_,
  (ss_cons (s_parFF 2 3 (f_callT c_list (ab_cons (v_var 1).toB ab_nil)) (f_lst av_nil))
  (ss_cons (s_while (t_cmp o_ne (b_var 2) (f_lst av_nil).toV.toB) (ss_one (s_appPop 3 2 (v_call 0 (av_cons (v_var 0) (av_cons (v_callB c_len (ab_cons (b_var 2) ab_nil)) av_nil))))))
  (ss_one (s_retM 3))))⟩
def F__law_mixed (ε : Eps) : List D → W D := defW 2 4 (B__law_mixed ε).1
/-! _law_empty -/
abbrev M__law_empty (ε : Eps) : Mo := mo [] 0 free cons xcs hds false false ε
def S__law_empty : Fix := ⟨["table", "lot", "a", "b"], C8.fnScope (st 54), fun _ => true, []⟩
def B__law_empty (ε : Eps) : { w : PW.Env → W Out // EvSs (M__law_empty ε) S__law_empty (C8.fnBody (st 54)) w } := ⟨_,
  (ss_one (s_ret (v_cmp o_eq (f_lc [("a", 2), ("b", 3)] (i_val (v_ix (v_var 0).toB v_int)) (g_tp (gs_cons (g_nm 2) (gs_cons (g_nm 3) gs_nil))) (ts_one (tw_and (t_cmp1 o_in (v_var 2) (v_var 1).toB) (tw_and1 (t_cmp1 o_in (v_var 3) (v_var 1).toB))).t) v_int).toV.toB (f_lst av_nil).toV.toB)))⟩
def F__law_empty (ε : Eps) : List D → W D := defW 2 4 (B__law_empty ε).1
/-! _law_others -/
abbrev M__law_others (ε : Eps) : Mo := mo [] 0 free cons xcs hds false false ε
def S__law_others : Fix := ⟨["table", "lot", "one"], C8.fnScope (st 55), fun _ => true, []⟩
def B__law_others (ε : Eps) : { w : PW.Env → W Out // EvSs (M__law_others ε) S__law_others (C8.fnBody (st 55)) w } := ⟨_,
  (ss_one (s_ret (v_callT c_tuple (ab_cons (f_lc [("one", 2)] (i_range1 (ab_cons (v_ix (v_var 0).toB v_int).toB ab_nil)) (g_nm 2) (ts_one (t_cmp1 o_notin (v_var 2) (v_var 1).toB)) (v_var 2)).toV.toB ab_nil))))⟩
def F__law_others (ε : Eps) : List D → W D := defW 2 3 (B__law_others ε).1
/-! _law_full -/
abbrev M__law_full (ε : Eps) : Mo := mo [("_law_couples", F__law_couples)] 1 free cons xcs hds false false ε
def S__law_full : Fix := ⟨["table", "lot", "a", "b"], C8.fnScope (st 53), fun _ => true, []⟩
def B__law_full (ε : Eps) : { w : PW.Env → W Out // EvSs (M__law_full ε) S__law_full (C8.fnBody (st 53)) w } := ⟨_,
  (ss_one (s_ret (v_cmp o_eq (f_lc [("a", 2), ("b", 3)] (i_val (v_call 0 (av_cons (v_ix (v_var 0).toB v_int) av_nil))) (g_tp (gs_cons (g_nm 2) (gs_cons (g_nm 3) gs_nil))) (ts_one (tw_and (t_cmp1 o_in (v_var 2) (v_var 1).toB) (tw_and (t_cmp1 o_in (v_var 3) (v_var 1).toB) (tw_and1 (t_cmp1 o_notin (v_tup (av_cons (v_var 2) (av_cons (v_var 3) av_nil))) (v_ix (v_var 0).toB v_int).toB)))).t) v_int).toV.toB (f_lst av_nil).toV.toB)))⟩
def F__law_full (ε : Eps) : List D → W D := defW 2 4 (B__law_full ε).1
/-! _law_parts -/
abbrev M__law_parts (ε : Eps) : Mo := mo [("_law_empty", F__law_empty), ("_law_others", F__law_others), ("_law_full", F__law_full)] 2 free cons xcs hds false false ε
def S__law_parts : Fix := ⟨["table", "lot"], C8.fnScope (st 56), fun _ => true, []⟩
def B__law_parts (ε : Eps) : { w : PW.Env → W Out // EvSs (M__law_parts ε) S__law_parts (C8.fnBody (st 56)) w } := ⟨_,
  (ss_one (s_ret (v_and (v_call 2 (av_cons (v_var 0) (av_cons (v_var 1) av_nil))) (v_one (v_call 0 (av_cons (v_var 0) (av_cons (v_call 1 (av_cons (v_var 0) (av_cons (v_var 1) av_nil))) av_nil)))))))⟩
def F__law_parts (ε : Eps) : List D → W D := defW 2 2 (B__law_parts ε).1
/-! is_told -/
abbrev M_is_told (ε : Eps) : Mo := mo [] 0 free cons xcs hds false false ε
def S_is_told : Fix := ⟨["couples", "a", "b"], C8.fnScope (st 24), fun _ => true, []⟩
def B_is_told (ε : Eps) : { w : PW.Env → W Out // EvSs (M_is_told ε) S_is_told (C8.fnBody (st 24)) w } := ⟨_,
  (ss_one (s_ret (v_cmp1 o_in (v_tup (av_cons (v_callB c_min (ab_cons (v_var 1).toB (ab_cons (v_var 2).toB ab_nil))) (av_cons (v_callB c_max (ab_cons (v_var 1).toB (ab_cons (v_var 2).toB ab_nil))) av_nil))) (v_var 0).toB)))⟩
def F_is_told (ε : Eps) : List D → W D := defW 3 3 (B_is_told ε).1
/-! row_from -/
abbrev M_row_from (ε : Eps) : Mo := mo [("is_told", F_is_told)] 1 free cons xcs hds false false ε
def S_row_from : Fix := ⟨["frame", "one", "first", "kinds", "level", "seen", "later", "here", "turn", "row", "there"], C8.fnScope (st 36), fun _ => true, [5, 6]⟩
def B_row_from (ε : Eps) : { w : PW.Env → W Out // EvSs (M_row_from ε) S_row_from (C8.fnBody (st 36)) w } := ⟨_,
  (ss_cons (s_set 3 (v_if (t_val (v_var 2).toB) (v_tup (av_cons (v_ix (v_var 0).toB v_int) (av_cons (v_ix (v_var 0).toB v_int) av_nil))) (v_tup (av_cons (v_ix (v_var 0).toB v_int) (av_cons (v_ix (v_var 0).toB v_int) av_nil)))))
  (ss_cons (s_parVF 4 5 (f_disp1T (v_tup (av_cons (v_var 1) (av_cons v_int av_nil))) (v_tup (av_cons (v_var 1) av_nil))).toV (f_newT))
  (ss_cons (s_while (t_val (v_var 4).toB) (ss_cons (s_if (t_cmp1 o_in (v_tup (av_cons (v_var 1) (av_cons v_int av_nil))) (v_var 4).toB) (ss_one (s_ret (v_ix (v_var 4).toB (v_tup (av_cons (v_var 1) (av_cons v_int av_nil)))))) ss_nil)
  (ss_cons (s_update 5 (v_var 4))
  (ss_cons (s_setF 6 (f_newT))
  (ss_cons (s_for (i_val (f_sortItems (v_var 4).toB).toV) (g_tt (gt_tp (g_tp (gs_cons (g_nm 7) (gs_cons (g_nm 8) gs_nil))) (gt_nm (g_nm 9) gt_nil))) (ss_one (s_for (i_val (f_lc [("there", 10)] (i_range1 (ab_cons (v_ix (v_var 0).toB v_int).toB ab_nil)) (g_nm 10) (ts_one (t_val (v_call 0 (av_cons (v_ix (v_var 3).toB (v_var 8)) (av_cons (v_var 7) (av_cons (v_var 10) av_nil)))).toB)) (v_var 10)).toV) (g_nm 10) (ss_one (s_if (t_cmp1 o_notin (v_tup (av_cons (v_var 10) (av_cons (v_bin o_sub v_int.toB (v_var 8).toB) av_nil))) (b_var 5)) (ss_one (s_dput 6 (v_tup (av_cons (v_var 10) (av_cons (v_bin o_sub v_int.toB (v_var 8).toB) av_nil))) (v_callB c_min (ab_cons (v_tup (av_star (v_var 9).toB (av_cons (v_var 10) av_nil))).toB (ab_cons (v_get2 (b_var 6) (v_tup (av_cons (v_var 10) (av_cons (v_bin o_sub v_int.toB (v_var 8).toB) av_nil))) (v_tup (av_star (v_var 9).toB (av_cons (v_var 10) av_nil)))).toB ab_nil))))) ss_nil)))))
  (ss_one (s_move 4 6)))))))
  (ss_one (s_ret v_non)))))⟩
def F_row_from (ε : Eps) : List D → W D := defW 3 11 (B_row_from ε).1
/-! a_swing -/
abbrev M_a_swing (ε : Eps) : Mo := mo [("row_from", F_row_from)] 2 free cons xcs hds false false ε
def S_a_swing : Fix := ⟨["frame", "one", "first", "second"], C8.fnScope (st 37), fun _ => true, []⟩
def B_a_swing (ε : Eps) : { w : PW.Env → W Out // EvSs (M_a_swing ε) S_a_swing (C8.fnBody (st 37)) w } := ⟨_,
  (ss_cons (s_for (i_range1 (ab_cons (v_ix (v_var 0).toB v_int).toB ab_nil)) (g_nm 1) (ss_cons (s_par 2 3 (v_call 0 (av_cons (v_var 0) (av_cons (v_var 1) (av_cons v_bl av_nil)))) (v_call 0 (av_cons (v_var 0) (av_cons (v_var 1) (av_cons v_bl av_nil)))))
  (ss_one (s_if (tw_and (t_cmp o_isnot (v_var 2).toB v_non.toB) (tw_and1 (t_cmp o_isnot (v_var 3).toB v_non.toB))).t (ss_one (s_ret (v_tup (av_cons (v_var 2) (av_cons (v_var 3) av_nil))))) ss_nil))))
  (ss_one (s_ret v_non)))⟩
def F_a_swing (ε : Eps) : List D → W D := defW 1 4 (B_a_swing ε).1
/-! parts_frame -/
abbrev M_parts_frame (ε : Eps) : Mo := mo [] 0 free cons xcs hds false false ε
def S_parts_frame : Fix := ⟨["frame", "lot", "many", "known", "strangers", "a", "b"], C8.fnScope (st 25), fun _ => true, []⟩
def B_parts_frame (ε : Eps) : { w : PW.Env → W Out // EvSs (M_parts_frame ε) S_parts_frame (C8.fnBody (st 25)) w } := ⟨_,
  (ss_cons (s_asg (v_var 0) (g_tp (gs_cons (g_nm 2) (gs_cons (g_nm 3) (gs_cons (g_nm 4) gs_nil)))))
  (ss_cons (s_if (t_val (v_callB c_any (ab_cons (f_lc [("a", 5), ("b", 6)] (i_val (v_var 4)) (g_tp (gs_cons (g_nm 5) (gs_cons (g_nm 6) gs_nil))) ts_nil (v_and (v_cmp1 o_in (v_var 5) (v_var 1).toB) (v_one (v_cmp1 o_in (v_var 6) (v_var 1).toB)))).toV.toB ab_nil)).toB) (ss_one (s_ret v_bl)) ss_nil)
  (ss_one (s_ret (v_not (v_callB c_any (ab_cons (f_lc [("a", 5), ("b", 6)] (i_val (v_var 3)) (g_tp (gs_cons (g_nm 5) (gs_cons (g_nm 6) gs_nil))) ts_nil (v_and (v_cmp1 o_notin (v_var 5) (v_var 1).toB) (v_one (v_cmp1 o_notin (v_var 6) (v_var 1).toB)))).toV.toB ab_nil)).toB)))))⟩
def F_parts_frame (ε : Eps) : List D → W D := defW 2 7 (B_parts_frame ε).1
/-! all_good -/
abbrev M_all_good (ε : Eps) : Mo := mo [("parts_frame", F_parts_frame)] 1 free cons xcs hds false false ε
def S_all_good : Fix := ⟨["frame", "found", "one", "lot"], C8.fnScope (st 27), fun _ => true, []⟩
def B_all_good (ε : Eps) : { w : PW.Env → W Out // EvSs (M_all_good ε) S_all_good (C8.fnBody (st 27)) w } := ⟨_,
  (ss_cons (s_set 1 (f_lst (av_cons (v_tup av_nil) av_nil)).toV)
  (ss_cons (s_for (i_range1 (ab_cons (v_ix (v_var 0).toB v_int).toB ab_nil)) (g_nm 2) (ss_one (s_set 1 (v_bin o_add (v_var 1).toB (f_lc [("lot", 3)] (i_val (v_var 1)) (g_nm 3) ts_nil (v_tup (av_star (v_var 3).toB (av_cons (v_var 2) av_nil)))).toV.toB))))
  (ss_one (s_ret (f_callB c_sorted (ab_cons (f_lc [("lot", 3)] (i_val (v_var 1)) (g_nm 3) (ts_one (t_val (v_call 0 (av_cons (v_var 0) (av_cons (v_var 3) av_nil))).toB)) (v_var 3)).toV.toB ab_nil)).toV))))⟩
def F_all_good (ε : Eps) : List D → W D := defW 1 4 (B_all_good ε).1
/-! some_lot -/
abbrev M_some_lot (ε : Eps) : Mo := mo [("all_good", F_all_good)] 2 free cons xcs hds false false ε
def S_some_lot : Fix := ⟨["frame", "found"], C8.fnScope (st 28), fun _ => true, []⟩
def B_some_lot (ε : Eps) : { w : PW.Env → W Out // EvSs (M_some_lot ε) S_some_lot (C8.fnBody (st 28)) w } := ⟨_,
  (ss_cons (s_set 1 (v_call 0 (av_cons (v_var 0) av_nil)))
  (ss_one (s_ret (v_if (t_val (v_var 1).toB) (v_ix (v_var 1).toB v_int) v_non))))⟩
def F_some_lot (ε : Eps) : List D → W D := defW 1 2 (B_some_lot ε).1
/-! all_couples -/
abbrev M_all_couples (ε : Eps) : Mo := mo [] 0 free cons xcs hds false false ε
def S_all_couples : Fix := ⟨["many", "a", "b"], C8.fnScope (st 15), fun _ => true, []⟩
def B_all_couples (ε : Eps) : { w : PW.Env → W Out // EvSs (M_all_couples ε) S_all_couples (C8.fnBody (st 15)) w } := ⟨_,
  (ss_one (s_ret (f_lc2 [("a", 1), ("b", 2)] [2] (i_range1 (ab_cons (v_var 0).toB ab_nil)) (g_nm 1) ts_nil (i_range2 (ab_cons (v_bin o_add (v_var 1).toB v_int.toB).toB (ab_cons (v_var 0).toB ab_nil))) (g_nm 2) ts_nil (v_tup (av_cons (v_var 1) (av_cons (v_var 2) av_nil)))).toV))⟩
def F_all_couples (ε : Eps) : List D → W D := defW 1 3 (B_all_couples ε).1
/-! open_couples -/
abbrev M_open_couples (ε : Eps) : Mo := mo [("all_couples", F_all_couples)] 1 free cons xcs hds false false ε
def S_open_couples : Fix := ⟨["frame", "many", "known", "strangers", "couple"], C8.fnScope (st 20), fun _ => true, []⟩
def B_open_couples (ε : Eps) : { w : PW.Env → W Out // EvSs (M_open_couples ε) S_open_couples (C8.fnBody (st 20)) w } := ⟨_,
  (ss_cons (s_asg (v_var 0) (g_tp (gs_cons (g_nm 1) (gs_cons (g_nm 2) (gs_cons (g_nm 3) gs_nil)))))
  (ss_one (s_ret (v_callT c_tuple (ab_cons (f_lc [("couple", 4)] (i_val (v_call 0 (av_cons (v_var 1) av_nil))) (g_nm 4) (ts_one (tw_and (t_cmp1 o_notin (v_var 4) (v_var 2).toB) (tw_and1 (t_cmp1 o_notin (v_var 4) (v_var 3).toB))).t) (v_var 4)).toV.toB ab_nil)))))⟩
def F_open_couples (ε : Eps) : List D → W D := defW 1 5 (B_open_couples ε).1
/-! is_integer -/
abbrev M_is_integer (ε : Eps) : Mo := mo [] 0 free cons xcs hds false false ε
def S_is_integer : Fix := ⟨["thing"], C8.fnScope (st 7), fun _ => true, []⟩
def B_is_integer (ε : Eps) : { w : PW.Env → W Out // EvSs (M_is_integer ε) S_is_integer (C8.fnBody (st 7)) w } := ⟨_,
  (ss_one (s_ret (v_and (v_callB c_isi (ab_cons (v_var 0).toB (ab_cons (PW.v_ty (T := "int")).toB ab_nil))) (v_one (v_not (v_callB c_isi (ab_cons (v_var 0).toB (ab_cons (PW.v_ty (T := "bool")).toB ab_nil))).toB)))))⟩
def F_is_integer (ε : Eps) : List D → W D := defW 1 1 (B_is_integer ε).1
/-! are_all -/
abbrev M_are_all (ε : Eps) : Mo := mo [("is_integer", F_is_integer)] 1 free cons xcs hds false false ε
def S_are_all : Fix := ⟨["thing", "fits", "member"], C8.fnScope (st 10), fun _ => true, []⟩
def B_are_all (ε : Eps) : { w : PW.Env → W Out // EvSs (M_are_all ε) S_are_all (C8.fnBody (st 10)) w } := ⟨_,
  (ss_one (s_ret (v_and (v_callB c_isi (ab_cons (v_var 0).toB (ab_cons (PW.v_ty (T := "tuple")).toB ab_nil))) (v_one (v_callB c_all (ab_cons (f_lc [("member", 2)] (i_val (v_var 0)) (g_nm 2) ts_nil (v_callV 1 (av_cons (v_var 2) av_nil))).toV.toB ab_nil))))))⟩
def F_are_all (ε : Eps) : List D → W D := defW 2 3 (B_are_all ε).1
/-! are_integers -/
abbrev M_are_integers (ε : Eps) : Mo := mo [("are_all", F_are_all), ("is_integer", F_is_integer)] 2 free cons xcs hds false false ε
def S_are_integers : Fix := ⟨["thing"], C8.fnScope (st 11), fun _ => true, []⟩
def B_are_integers (ε : Eps) : { w : PW.Env → W Out // EvSs (M_are_integers ε) S_are_integers (C8.fnBody (st 11)) w } := ⟨_,
  (ss_one (s_ret (v_call 0 (av_cons (v_var 0) (av_cons (v_fn 1 _) av_nil)))))⟩
def F_are_integers (ε : Eps) : List D → W D := defW 1 1 (B_are_integers ε).1
/-! do_rise -/
abbrev M_do_rise (ε : Eps) : Mo := mo [("are_all", F_are_all), ("are_integers", F_are_integers)] 3 free cons xcs hds false false ε
def S_do_rise : Fix := ⟨["thing", "one", "other"], C8.fnScope (st 13), fun _ => true, []⟩
def B_do_rise (ε : Eps) : { w : PW.Env → W Out // EvSs (M_do_rise ε) S_do_rise (C8.fnBody (st 13)) w } := ⟨_,
  (ss_cons (s_if (tw_and (t_not (t_val (v_call 1 (av_cons (v_var 0) av_nil)).toB)) (tw_and (t_not t_never) (tw_and1 (t_not (t_val (v_call 0 (av_cons (v_var 0) (av_cons (v_fn 1 _) av_nil))).toB))))).t (ss_one (s_ret v_bl)) ss_nil)
  (ss_one (s_ret (v_callB c_all (ab_cons (f_lc [("one", 1), ("other", 2)] (i_zip (av_cons (v_var 0) (av_cons (v_slice (v_var 0).toB (p_some v_int) p_none) av_nil))) (g_tp (gs_cons (g_nm 1) (gs_cons (g_nm 2) gs_nil))) ts_nil (v_cmp o_lt (v_var 1).toB (v_var 2).toB)).toV.toB ab_nil)))))⟩
def F_do_rise (ε : Eps) : List D → W D := defW 1 3 (B_do_rise ε).1
/-! is_lot -/
abbrev M_is_lot (ε : Eps) : Mo := mo [("do_rise", F_do_rise), ("are_integers", F_are_integers)] 4 free cons xcs hds false false ε
def S_is_lot : Fix := ⟨["table", "thing", "one"], C8.fnScope (st 16), fun _ => true, []⟩
def B_is_lot (ε : Eps) : { w : PW.Env → W Out // EvSs (M_is_lot ε) S_is_lot (C8.fnBody (st 16)) w } := ⟨_,
  (ss_one (s_ret (v_and (v_call 1 (av_cons (v_var 1) av_nil)) (v_and (v_call 0 (av_cons (v_var 1) av_nil)) (v_one (v_callB c_all (ab_cons (f_lc [("one", 2)] (i_val (v_var 1)) (g_nm 2) ts_nil (v_chain o_le o_lt v_int.toB (v_var 2).toB (v_ix (v_var 0).toB v_int).toB)).toV.toB ab_nil)))))))⟩
def F_is_lot (ε : Eps) : List D → W D := defW 2 3 (B_is_lot ε).1
/-! does_part -/
abbrev M_does_part (ε : Eps) : Mo := mo [("parts_frame", F_parts_frame), ("is_lot", F_is_lot)] 5 free cons xcs hds false false ε
def S_does_part : Fix := ⟨["frame", "thing"], C8.fnScope (st 26), fun _ => true, []⟩
def B_does_part (ε : Eps) : { w : PW.Env → W Out // EvSs (M_does_part ε) S_does_part (C8.fnBody (st 26)) w } := ⟨_,
  (ss_one (s_ret (v_and (v_call 1 (av_cons (v_tup (av_cons (v_ix (v_var 0).toB v_int) (av_cons (v_tup av_nil) av_nil))) (av_cons (v_var 1) av_nil))) (v_one (v_call 0 (av_cons (v_var 0) (av_cons (v_var 1) av_nil)))))))⟩
def F_does_part (ε : Eps) : List D → W D := defW 2 2 (B_does_part ε).1
/-! fills -/
abbrev M_fills (ε : Eps) : Mo := mo [] 0 free cons xcs hds false false ε
def S_fills : Fix := ⟨["frame", "table", "many", "known", "strangers", "couple"], C8.fnScope (st 21), fun _ => true, []⟩
def B_fills (ε : Eps) : { w : PW.Env → W Out // EvSs (M_fills ε) S_fills (C8.fnBody (st 21)) w } := ⟨_,
  (ss_cons (s_asg (v_var 0) (g_tp (gs_cons (g_nm 2) (gs_cons (g_nm 3) (gs_cons (g_nm 4) gs_nil)))))
  (ss_cons (s_if (tw_or (t_cmp o_ne (v_ix (v_var 1).toB v_int).toB (v_var 2).toB) (tw_or1 (t_val (v_callB c_any (ab_cons (f_lc [("couple", 5)] (i_val (v_var 4)) (g_nm 5) ts_nil (v_cmp1 o_in (v_var 5) (v_ix (v_var 1).toB v_int).toB)).toV.toB ab_nil)).toB))).t (ss_one (s_ret v_bl)) ss_nil)
  (ss_one (s_ret (v_callB c_all (ab_cons (f_lc [("couple", 5)] (i_val (v_var 3)) (g_nm 5) ts_nil (v_cmp1 o_in (v_var 5) (v_ix (v_var 1).toB v_int).toB)).toV.toB ab_nil))))))⟩
def F_fills (ε : Eps) : List D → W D := defW 2 6 (B_fills ε).1
/-! _law_alike -/
abbrev M__law_alike (ε : Eps) : Mo := mo [] 0 free cons xcs hds false false ε
def S__law_alike : Fix := ⟨["found", "due", "pairs", "at", "one", "other"], C8.fnScope (st 50), fun _ => true, [2]⟩
def B__law_alike (ε : Eps) : { w : PW.Env → W Out // EvSs (M__law_alike ε) S__law_alike (C8.fnBody (st 50)) w } := ⟨_,
  (ss_cons (s_parF 2 3 (f_lst (av_cons (v_tup (av_cons (v_var 0) (av_cons (v_var 1) av_nil))) av_nil)) v_int)
  (ss_cons (s_while (t_cmp o_lt (v_var 3).toB (v_callB c_len (ab_cons (b_var 2) ab_nil)).toB) (ss_cons (s_asg (v_ix (b_var 2) (v_var 3)) (g_tp (gs_cons (g_nm 4) (gs_cons (g_nm 5) gs_nil))))
  (ss_cons (s_augI 3 v_int)
  (ss_cons (s_if (tw_or (t_cmp o_ne (v_callB c_isi (ab_cons (v_var 4).toB (ab_cons (PW.v_ty (T := "bool")).toB ab_nil))).toB (v_callB c_isi (ab_cons (v_var 5).toB (ab_cons (PW.v_ty (T := "bool")).toB ab_nil))).toB) (tw_or1 (t_cmp o_ne (v_callB c_isi (ab_cons (v_var 4).toB (ab_cons (PW.v_ty (T := "str")).toB ab_nil))).toB (v_callB c_isi (ab_cons (v_var 5).toB (ab_cons (PW.v_ty (T := "str")).toB ab_nil))).toB))).t (ss_one (s_ret v_bl)) ss_nil)
  (ss_cons (s_if (t_cmp o_ne (v_callB c_isi (ab_cons (v_var 4).toB (ab_cons (v_tup (av_cons (PW.v_ty (T := "tuple")) (av_cons (PW.v_ty (T := "list")) av_nil))).toB ab_nil))).toB (v_callB c_isi (ab_cons (v_var 5).toB (ab_cons (v_tup (av_cons (PW.v_ty (T := "tuple")) (av_cons (PW.v_ty (T := "list")) av_nil))).toB ab_nil))).toB) (ss_one (s_ret v_bl)) ss_nil)
  (ss_one (s_if (t_val (v_callB c_isi (ab_cons (v_var 4).toB (ab_cons (v_tup (av_cons (PW.v_ty (T := "tuple")) (av_cons (PW.v_ty (T := "list")) av_nil))).toB ab_nil))).toB) (ss_cons (s_if (tw_or (t_cmp o_ne (v_callB c_isi (ab_cons (v_var 4).toB (ab_cons (PW.v_ty (T := "tuple")).toB ab_nil))).toB (v_callB c_isi (ab_cons (v_var 5).toB (ab_cons (PW.v_ty (T := "tuple")).toB ab_nil))).toB) (tw_or1 (t_cmp o_ne (v_callB c_len (ab_cons (v_var 4).toB ab_nil)).toB (v_callB c_len (ab_cons (v_var 5).toB ab_nil)).toB))).t (ss_one (s_ret v_bl)) ss_nil)
  (ss_one (s_extend 2 (v_listzip (av_cons (v_var 4) (av_cons (v_var 5) av_nil))).toB))) (ss_one (s_if (t_cmp o_ne (v_var 4).toB (v_var 5).toB) (ss_one (s_ret v_bl)) ss_nil)))))))))
  (ss_one (s_ret v_bl))))⟩
def F__law_alike (ε : Eps) : List D → W D := defW 2 6 (B__law_alike ε).1
/-! is_row -/
abbrev M_is_row (ε : Eps) : Mo := mo [("is_told", F_is_told)] 1 free cons xcs hds false false ε
def S_is_row : Fix := ⟨["frame", "row", "first", "kinds", "at", "a", "b"], C8.fnScope (st 34), fun _ => true, []⟩
def B_is_row (ε : Eps) : { w : PW.Env → W Out // EvSs (M_is_row ε) S_is_row (C8.fnBody (st 34)) w } := ⟨_,
  (ss_cons (s_if (tw_or (t_cmp o_lt (v_callB c_len (ab_cons (v_var 1).toB ab_nil)).toB v_int.toB) (tw_or (t_cmp o_eq (v_bin o_mod (v_callB c_len (ab_cons (v_var 1).toB ab_nil)).toB v_int.toB).toB v_int.toB) (tw_or1 (t_cmp o_ne (v_ix (v_var 1).toB v_int).toB (v_ix (v_var 1).toB (v_neg v_int.toB)).toB)))).t (ss_one (s_ret v_bl)) ss_nil)
  (ss_cons (s_set 3 (v_if (t_val (v_var 2).toB) (v_tup (av_cons (v_ix (v_var 0).toB v_int) (av_cons (v_ix (v_var 0).toB v_int) av_nil))) (v_tup (av_cons (v_ix (v_var 0).toB v_int) (av_cons (v_ix (v_var 0).toB v_int) av_nil)))))
  (ss_one (s_ret (v_callB c_all (ab_cons (f_lc [("at", 4), ("a", 5), ("b", 6)] (i_enumZ (av_cons (v_var 1) (av_cons (v_slice (v_var 1).toB (p_some v_int) p_none) av_nil))) (g_tt (gt_nm (g_nm 4) (gt_tp (g_tp (gs_cons (g_nm 5) (gs_cons (g_nm 6) gs_nil))) gt_nil))) ts_nil (v_call 0 (av_cons (v_ix (v_var 3).toB (v_bin o_mod (v_var 4).toB v_int.toB)) (av_cons (v_var 5) (av_cons (v_var 6) av_nil))))).toV.toB ab_nil))))))⟩
def F_is_row (ε : Eps) : List D → W D := defW 3 7 (B_is_row ε).1
/-! is_swing -/
abbrev M_is_swing (ε : Eps) : Mo := mo [("are_integers", F_are_integers), ("is_row", F_is_row)] 3 free cons xcs hds false false ε
def S_is_swing : Fix := ⟨["frame", "thing", "first", "second", "row", "one"], C8.fnScope (st 35), fun _ => true, []⟩
def B_is_swing (ε : Eps) : { w : PW.Env → W Out // EvSs (M_is_swing ε) S_is_swing (C8.fnBody (st 35)) w } := ⟨_,
  (ss_cons (s_if (tw_or (t_not (t_val (v_callB c_isi (ab_cons (v_var 1).toB (ab_cons (PW.v_ty (T := "tuple")).toB ab_nil))).toB)) (tw_or (t_cmp o_ne (v_callB c_len (ab_cons (v_var 1).toB ab_nil)).toB v_int.toB) (tw_or1 (t_not (t_val (v_callB c_all (ab_cons (f_lc [("row", 4)] (i_val (v_var 1)) (g_nm 4) ts_nil (v_call 0 (av_cons (v_var 4) av_nil))).toV.toB ab_nil)).toB))))).t (ss_one (s_ret v_bl)) ss_nil)
  (ss_cons (s_if (t_not (t_val (v_callB c_all (ab_cons (f_lc2 [("row", 4), ("one", 5)] [5] (i_val (v_var 1)) (g_nm 4) ts_nil (i_val (v_var 4)) (g_nm 5) ts_nil (v_chain o_le o_lt v_int.toB (v_var 5).toB (v_ix (v_var 0).toB v_int).toB)).toV.toB ab_nil)).toB)) (ss_one (s_ret v_bl)) ss_nil)
  (ss_cons (s_asg (v_var 1) (g_tp (gs_cons (g_nm 2) (gs_cons (g_nm 3) gs_nil))))
  (ss_one (s_ret (v_and (v_call 1 (av_cons (v_var 0) (av_cons (v_var 2) (av_cons v_bl av_nil)))) (v_and (v_call 1 (av_cons (v_var 0) (av_cons (v_var 3) (av_cons v_bl av_nil)))) (v_one (v_cmp o_eq (v_ix (v_var 2).toB v_int).toB (v_ix (v_var 3).toB v_int).toB)))))))))⟩
def F_is_swing (ε : Eps) : List D → W D := defW 2 6 (B_is_swing ε).1
/-! is_within -/
abbrev M_is_within (ε : Eps) : Mo := mo [("is_integer", F_is_integer)] 1 free cons xcs hds false false ε
def S_is_within : Fix := ⟨["thing", "least", "most"], C8.fnScope (st 8), fun _ => true, []⟩
def B_is_within (ε : Eps) : { w : PW.Env → W Out // EvSs (M_is_within ε) S_is_within (C8.fnBody (st 8)) w } := ⟨_,
  (ss_one (s_ret (v_and (v_call 0 (av_cons (v_var 0) av_nil)) (v_one (v_chain o_le o_le (v_var 1).toB (v_var 0).toB (v_var 2).toB)))))⟩
def F_is_within (ε : Eps) : List D → W D := defW 3 3 (B_is_within ε).1
/-! need_frame -/
abbrev M_need_frame (ε : Eps) : Mo := mo [("all_good", F_all_good)] 2 free cons xcs hds false false ε
def S_need_frame : Fix := ⟨["frame"], C8.fnScope (st 38), fun _ => true, []⟩
def B_need_frame (ε : Eps) : { w : PW.Env → W Out // EvSs (M_need_frame ε) S_need_frame (C8.fnBody (st 38)) w } := ⟨_,
  (ss_one (s_if (t_cmp o_eq (v_call 0 (av_cons (v_var 0) av_nil)).toB (f_lst av_nil).toV.toB) (ss_one (s_raise 0 (av_cons v_str av_nil))) ss_nil))⟩
def F_need_frame (ε : Eps) : List D → W D := defW 1 1 (B_need_frame ε).1
/-! sure_side -/
abbrev M_sure_side (ε : Eps) : Mo := mo [("is_within", F_is_within), ("need_frame", F_need_frame), ("all_good", F_all_good)] 3 free cons xcs hds false false ε
def S_sure_side : Fix := ⟨["frame", "one", "inside", "lot"], C8.fnScope (st 39), fun _ => true, []⟩
def B_sure_side (ε : Eps) : { w : PW.Env → W Out // EvSs (M_sure_side ε) S_sure_side (C8.fnBody (st 39)) w } := ⟨_,
  (ss_cons (s_if (t_not (t_val (v_call 0 (av_cons (v_var 1) (av_cons v_int (av_cons (v_bin o_sub (v_ix (v_var 0).toB v_int).toB v_int.toB) av_nil)))).toB)) (ss_one (s_raise 0 (av_cons v_str av_nil))) ss_nil)
  (ss_cons (s_expr (v_call 1 (av_cons (v_var 0) av_nil)))
  (ss_cons (s_setLc 2 [("lot", 3)] (i_val (v_call 2 (av_cons (v_var 0) av_nil))) (g_nm 3) ts_nil (v_cmp1 o_in (v_var 1) (v_var 3).toB))
  (ss_cons (s_if (t_val (v_callB c_all (ab_cons (v_var 2).toB ab_nil)).toB) (ss_one (s_ret (v_con 0))) ss_nil)
  (ss_one (s_ret (v_if (t_val (v_callB c_any (ab_cons (v_var 2).toB ab_nil)).toB) (v_con 1) (v_con 2))))))))⟩
def F_sure_side (ε : Eps) : List D → W D := defW 2 4 (B_sure_side ε).1
/-! lots_many -/
abbrev M_lots_many (ε : Eps) : Mo := mo [("need_frame", F_need_frame), ("all_good", F_all_good)] 3 free cons xcs hds false false ε
def S_lots_many : Fix := ⟨["frame"], C8.fnScope (st 43), fun _ => true, []⟩
def B_lots_many (ε : Eps) : { w : PW.Env → W Out // EvSs (M_lots_many ε) S_lots_many (C8.fnBody (st 43)) w } := ⟨_,
  (ss_cons (s_expr (v_call 0 (av_cons (v_var 0) av_nil)))
  (ss_one (s_ret (v_callB c_len (ab_cons (v_call 1 (av_cons (v_var 0) av_nil)).toB ab_nil)))))⟩
def F_lots_many (ε : Eps) : List D → W D := defW 1 1 (B_lots_many ε).1
/-! best_person -/
abbrev M_best_person (ε : Eps) : Mo := mo [("need_frame", F_need_frame), ("all_good", F_all_good)] 3 free cons xcs hds false false ε
def S_best_person : Fix := ⟨["frame", "lots", "marks", "one", "many", "lot"], C8.fnScope (st 44), fun _ => true, [2]⟩
def B_best_person (ε : Eps) : { w : PW.Env → W Out // EvSs (M_best_person ε) S_best_person (C8.fnBody (st 44)) w } := ⟨_,
  (ss_cons (s_expr (v_call 0 (av_cons (v_var 0) av_nil)))
  (ss_cons (s_set 1 (v_call 1 (av_cons (v_var 0) av_nil)))
  (ss_cons (s_if (t_cmp o_eq (v_callB c_len (ab_cons (v_var 1).toB ab_nil)).toB v_int.toB) (ss_one (s_ret v_non)) ss_nil)
  (ss_cons (s_setF 2 (f_lst av_nil))
  (ss_cons (s_for (i_range1 (ab_cons (v_ix (v_var 0).toB v_int).toB ab_nil)) (g_nm 3) (ss_cons (s_set 4 (v_callB c_len (ab_cons (f_lc [("lot", 5)] (i_val (v_var 1)) (g_nm 5) (ts_one (t_cmp1 o_in (v_var 3) (v_var 5).toB)) (v_var 5)).toV.toB ab_nil)))
  (ss_one (s_append 2 (v_tup (av_cons (v_callB c_max (ab_cons (v_var 4).toB (ab_cons (v_bin o_sub (v_callB c_len (ab_cons (v_var 1).toB ab_nil)).toB (v_var 4).toB).toB ab_nil))) (av_cons (v_var 3) av_nil)))))))
  (ss_one (s_ret (v_ix (v_callB c_min (ab_cons (b_var 2) ab_nil)).toB v_int))))))))⟩
def F_best_person (ε : Eps) : List D → W D := defW 1 6 (B_best_person ε).1
/-! need_two -/
abbrev M_need_two (ε : Eps) : Mo := mo [("is_within", F_is_within)] 2 free cons xcs hds false false ε
def S_need_two : Fix := ⟨["frame", "a", "b"], C8.fnScope (st 22), fun _ => true, []⟩
def B_need_two (ε : Eps) : { w : PW.Env → W Out // EvSs (M_need_two ε) S_need_two (C8.fnBody (st 22)) w } := ⟨_,
  (ss_one (s_if (tw_or (t_not (t_val (v_call 0 (av_cons (v_var 1) (av_cons v_int (av_cons (v_bin o_sub (v_ix (v_var 0).toB v_int).toB v_int.toB) av_nil)))).toB)) (tw_or (t_not (t_val (v_call 0 (av_cons (v_var 2) (av_cons v_int (av_cons (v_bin o_sub (v_ix (v_var 0).toB v_int).toB v_int.toB) av_nil)))).toB)) (tw_or1 (t_cmp o_eq (v_var 1).toB (v_var 2).toB)))).t (ss_one (s_raise 0 (av_cons v_str av_nil))) ss_nil))⟩
def F_need_two (ε : Eps) : List D → W D := defW 3 3 (B_need_two ε).1
/-! tell -/
abbrev M_tell (ε : Eps) : Mo := mo [("need_two", F_need_two), ("open_couples", F_open_couples)] 3 free cons xcs hds false false ε
def S_tell : Fix := ⟨["frame", "a", "b", "word", "couple", "many", "known", "strangers"], C8.fnScope (st 23), fun _ => true, []⟩
def B_tell (ε : Eps) : { w : PW.Env → W Out // EvSs (M_tell ε) S_tell (C8.fnBody (st 23)) w } := ⟨_,
  (ss_cons (s_expr (v_call 0 (av_cons (v_var 0) (av_cons (v_var 1) (av_cons (v_var 2) av_nil)))))
  (ss_cons (s_if (tw_or (t_not (t_val (v_callB c_isi (ab_cons (v_var 3).toB (ab_cons (PW.v_ty (T := "str")).toB ab_nil))).toB)) (tw_or1 (t_cmp1 o_notin (v_var 3) (v_tup (av_cons (v_con 4) (av_cons (v_con 3) av_nil))).toB))).t (ss_one (s_raise 0 (av_cons v_str av_nil))) ss_nil)
  (ss_cons (s_set 4 (v_tup (av_cons (v_callB c_min (ab_cons (v_var 1).toB (ab_cons (v_var 2).toB ab_nil))) (av_cons (v_callB c_max (ab_cons (v_var 1).toB (ab_cons (v_var 2).toB ab_nil))) av_nil))))
  (ss_cons (s_if (t_cmp1 o_notin (v_var 4) (v_call 1 (av_cons (v_var 0) av_nil)).toB) (ss_one (s_raise 0 (av_cons v_str av_nil))) ss_nil)
  (ss_cons (s_asg (v_var 0) (g_tp (gs_cons (g_nm 5) (gs_cons (g_nm 6) (gs_cons (g_nm 7) gs_nil)))))
  (ss_cons (s_if (t_cmp o_eq (v_var 3).toB (v_con 4).toB) (ss_one (s_ret (v_tup (av_cons (v_var 5) (av_cons (v_callT c_tuple (ab_cons (f_callB c_sorted (ab_cons (v_tup (av_star (v_var 6).toB (av_cons (v_var 4) av_nil))).toB ab_nil)).toV.toB ab_nil)) (av_cons (v_var 7) av_nil)))))) ss_nil)
  (ss_one (s_ret (v_tup (av_cons (v_var 5) (av_cons (v_var 6) (av_cons (v_callT c_tuple (ab_cons (f_callB c_sorted (ab_cons (v_tup (av_star (v_var 7).toB (av_cons (v_var 4) av_nil))).toB ab_nil)).toV.toB ab_nil)) av_nil))))))))))))⟩
def F_tell (ε : Eps) : List D → W D := defW 4 8 (B_tell ε).1
/-! sure_by -/
abbrev M_sure_by (ε : Eps) : Mo := mo [("open_couples", F_open_couples), ("all_good", F_all_good), ("tell", F_tell)] 4 free cons xcs hds false false ε
def S_sure_by : Fix := ⟨["frame", "word", "a", "b"], C8.fnScope (st 40), fun _ => true, []⟩
def B_sure_by (ε : Eps) : { w : PW.Env → W Out // EvSs (M_sure_by ε) S_sure_by (C8.fnBody (st 40)) w } := ⟨_,
  (ss_one (s_ret (v_callT c_tuple (ab_cons (f_lc [("a", 2), ("b", 3)] (i_val (v_call 0 (av_cons (v_var 0) av_nil))) (g_tp (gs_cons (g_nm 2) (gs_cons (g_nm 3) gs_nil))) (ts_one (t_cmp o_eq (v_call 1 (av_cons (v_call 2 (av_cons (v_var 0) (av_cons (v_var 2) (av_cons (v_var 3) (av_cons (v_var 1) av_nil))))) av_nil)).toB (f_lst av_nil).toV.toB)) (v_tup (av_cons (v_var 2) (av_cons (v_var 3) av_nil)))).toV.toB ab_nil))))⟩
def F_sure_by (ε : Eps) : List D → W D := defW 2 4 (B_sure_by ε).1
/-! surely_known -/
abbrev M_surely_known (ε : Eps) : Mo := mo [("need_frame", F_need_frame), ("sure_by", F_sure_by)] 5 free cons xcs hds false false ε
def S_surely_known : Fix := ⟨["frame"], C8.fnScope (st 41), fun _ => true, []⟩
def B_surely_known (ε : Eps) : { w : PW.Env → W Out // EvSs (M_surely_known ε) S_surely_known (C8.fnBody (st 41)) w } := ⟨_,
  (ss_cons (s_expr (v_call 0 (av_cons (v_var 0) av_nil)))
  (ss_one (s_ret (v_call 1 (av_cons (v_var 0) (av_cons (v_con 3) av_nil))))))⟩
def F_surely_known (ε : Eps) : List D → W D := defW 1 1 (B_surely_known ε).1
/-! filled_by -/
abbrev M_filled_by (ε : Eps) : Mo := mo [("does_part", F_does_part), ("all_couples", F_all_couples)] 6 free cons xcs hds false false ε
def S_filled_by : Fix := ⟨["frame", "lot", "inside", "a", "b", "couple"], C8.fnScope (st 29), fun _ => true, []⟩
def B_filled_by (ε : Eps) : { w : PW.Env → W Out // EvSs (M_filled_by ε) S_filled_by (C8.fnBody (st 29)) w } := ⟨_,
  (ss_cons (s_if (t_not (t_val (v_call 0 (av_cons (v_var 0) (av_cons (v_var 1) av_nil))).toB)) (ss_one (s_raise 0 (av_cons v_str av_nil))) ss_nil)
  (ss_cons (s_setLc 2 [("a", 3), ("b", 4)] (i_val (v_call 1 (av_cons (v_ix (v_var 0).toB v_int) av_nil))) (g_tp (gs_cons (g_nm 3) (gs_cons (g_nm 4) gs_nil))) (ts_one (tw_and (t_cmp1 o_in (v_var 3) (v_var 1).toB) (tw_and1 (t_cmp1 o_in (v_var 4) (v_var 1).toB))).t) (v_tup (av_cons (v_var 3) (av_cons (v_var 4) av_nil))))
  (ss_one (s_ret (v_tup (av_cons (v_ix (v_var 0).toB v_int) (av_cons (v_callT c_tuple (ab_cons (f_callB c_sorted (ab_cons (f_dcT [("couple", 5)] (i_val (v_tup (av_star (v_ix (v_var 0).toB v_int).toB (av_star (v_var 2).toB av_nil)))) (g_nm 5) ts_nil (v_var 5) v_bl).toV.toB ab_nil)).toV.toB ab_nil)) av_nil)))))))⟩
def F_filled_by (ε : Eps) : List D → W D := defW 2 6 (B_filled_by ε).1
/-! _law_partings -/
abbrev M__law_partings (ε : Eps) : Mo := mo [("_law_lots", F__law_lots), ("_law_parts", F__law_parts)] 3 free cons xcs hds false false ε
def S__law_partings : Fix := ⟨["table", "lot"], C8.fnScope (st 57), fun _ => true, []⟩
def B__law_partings (ε : Eps) : { w : PW.Env → W Out // EvSs (M__law_partings ε) S__law_partings (C8.fnBody (st 57)) w } := ⟨_,
  (ss_one (s_ret (f_lc [("lot", 1)] (i_val (v_call 0 (av_cons (v_ix (v_var 0).toB v_int) av_nil))) (g_nm 1) (ts_one (t_val (v_call 1 (av_cons (v_var 0) (av_cons (v_var 1) av_nil))).toB)) (v_var 1)).toV))⟩
def F__law_partings (ε : Eps) : List D → W D := defW 1 2 (B__law_partings ε).1
/-! sure_strangers -/
abbrev M_sure_strangers (ε : Eps) : Mo := mo [("need_frame", F_need_frame), ("sure_by", F_sure_by)] 5 free cons xcs hds false false ε
def S_sure_strangers : Fix := ⟨["frame"], C8.fnScope (st 42), fun _ => true, []⟩
def B_sure_strangers (ε : Eps) : { w : PW.Env → W Out // EvSs (M_sure_strangers ε) S_sure_strangers (C8.fnBody (st 42)) w } := ⟨_,
  (ss_cons (s_expr (v_call 0 (av_cons (v_var 0) av_nil)))
  (ss_one (s_ret (v_call 1 (av_cons (v_var 0) (av_cons (v_con 4) av_nil))))))⟩
def F_sure_strangers (ε : Eps) : List D → W D := defW 1 1 (B_sure_strangers ε).1
/-! law -/
abbrev M_law (ε : Eps) : Mo := mo [("_law_bag", F__law_bag), ("_law_table", F__law_table), ("_law_mixed", F__law_mixed), ("_law_couples", F__law_couples), ("_law_take", F__law_take), ("_law_lots", F__law_lots), ("_law_parts", F__law_parts), ("a_swing", F_a_swing), ("some_lot", F_some_lot), ("open_couples", F_open_couples), ("does_part", F_does_part), ("fills", F_fills), ("_law_alike", F__law_alike), ("is_swing", F_is_swing), ("sure_side", F_sure_side), ("lots_many", F_lots_many), ("best_person", F_best_person), ("surely_known", F_surely_known), ("filled_by", F_filled_by), ("_law_partings", F__law_partings), ("sure_strangers", F_sure_strangers)] 9 free cons xcs hds true false ε
def S_law : Fix := ⟨["script", "bag", "turn", "table", "many", "left", "one", "known", "apart", "rows", "couple", "tables", "lot", "ways", "parted", "swing", "found", "good", "ins", "marks", "size", "sides", "sure", "far", "frame", "row", "a", "b", "its", "own"], C8.fnScope (st 61), fun _ => true, [16, 19]⟩
def B_law (ε : Eps) : { w : PW.Env → W Out // EvSs (M_law ε) S_law (C8.fnBody (st 61)) w } := ⟨_,
  (ss_cons (s_set 1 (v_call 0 (av_cons (v_var 0) av_nil)))
  (ss_cons (s_for (i_range1 (ab_cons v_int.toB ab_nil)) (g_nm 2) (ss_cons (s_set 3 (v_call 1 (av_cons (v_var 1) (av_cons v_int av_nil))))
  (ss_cons (s_set 4 (v_ix (v_var 3).toB v_int))
  (ss_cons (s_set 5 (v_slice (v_call 2 (av_cons (v_var 1) (av_cons (v_call 3 (av_cons (v_var 4) av_nil)) av_nil))).toB p_none (p_some (v_call 4 (av_cons (v_var 1) (av_cons v_int av_nil))))))
  (ss_cons (s_set 7 (v_callT c_tuple (ab_cons (f_lc [("one", 6)] (i_val (v_ix (v_var 3).toB v_int)) (g_nm 6) (ts_one (t_cmp1 o_notin (v_var 6) (v_var 5).toB)) (v_var 6)).toV.toB ab_nil)))
  (ss_cons (s_set 8 (v_callT c_tuple (ab_cons (f_lc [("one", 6)] (i_val (v_call 3 (av_cons (v_var 4) av_nil))) (g_nm 6) (ts_one (tw_and (t_cmp1 o_notin (v_var 6) (v_ix (v_var 3).toB v_int).toB) (tw_and1 (t_cmp1 o_notin (v_var 6) (v_var 5).toB))).t) (v_var 6)).toV.toB ab_nil)))
  (ss_cons (s_asg (v_tup (av_cons (v_tup (av_cons (v_var 4) (av_cons (v_var 7) (av_cons (v_var 8) av_nil)))) (av_cons (f_lst (av_cons (v_tup av_nil) av_nil)).toV av_nil))) (g_tp (gs_cons (g_nm 24) (gs_cons (g_nm 9) gs_nil))))
  (ss_cons (s_for (i_val (f_callB c_sorted (ab_cons (v_var 5).toB ab_nil)).toV) (g_nm 10) (ss_one (s_set 9 (v_bin o_add (v_var 9).toB (f_lc [("row", 25)] (i_val (v_var 9)) (g_nm 25) ts_nil (v_bin o_add (v_var 25).toB (v_tup (av_cons (v_var 10) av_nil)).toB)).toV.toB))))
  (ss_cons (s_set 11 (f_lc [("row", 25)] (i_val (v_var 9)) (g_nm 25) ts_nil (v_tup (av_cons (v_var 4) (av_cons (v_callT c_tuple (ab_cons (f_callB c_sorted (ab_cons (v_bin o_add (v_var 7).toB (v_var 25).toB).toB ab_nil)).toV.toB ab_nil)) av_nil)))).toV)
  (ss_cons (s_set 13 (f_lc [("lot", 12)] (i_val (v_call 5 (av_cons (v_var 4) av_nil))) (g_nm 12) (ts_one (t_cmp o_eq (v_bin o_add (f_lc [("a", 26), ("b", 27)] (i_val (v_var 8)) (g_tp (gs_cons (g_nm 26) (gs_cons (g_nm 27) gs_nil))) (ts_one (tw_and (t_cmp1 o_in (v_var 26) (v_var 12).toB) (tw_and1 (t_cmp1 o_in (v_var 27) (v_var 12).toB))).t) v_int).toV.toB (f_lc [("a", 26), ("b", 27)] (i_val (v_var 7)) (g_tp (gs_cons (g_nm 26) (gs_cons (g_nm 27) gs_nil))) (ts_one (tw_and (t_cmp1 o_notin (v_var 26) (v_var 12).toB) (tw_and1 (t_cmp1 o_notin (v_var 27) (v_var 12).toB))).t) v_int).toV.toB).toB (f_lst av_nil).toV.toB)) (v_var 12)).toV)
  (ss_cons (s_setLc 14 [("lot", 12)] (i_val (v_call 5 (av_cons (v_var 4) av_nil))) (g_nm 12) (ts_one (t_cmp o_ne (f_lc [("one", 6)] (i_val (v_var 11)) (g_nm 6) (ts_one (t_val (v_call 6 (av_cons (v_var 6) (av_cons (v_var 12) av_nil))).toB)) (v_var 6)).toV.toB (f_lst av_nil).toV.toB)) (v_var 12))
  (ss_cons (s_par 15 12 (v_call 7 (av_cons (v_var 24) av_nil)) (v_call 8 (av_cons (v_var 24) av_nil)))
  (ss_cons (s_setF 16 (f_lst (av_cons (v_call 9 (av_cons (v_var 24) av_nil)) (av_cons (f_lc [("one", 6)] (i_val (v_call 5 (av_cons (v_var 4) av_nil))) (g_nm 6) ts_nil (v_call 10 (av_cons (v_var 24) (av_cons (v_var 6) av_nil)))).toV (av_cons (v_cmp o_is (v_var 15).toB v_non.toB) (av_cons (v_cmp o_is (v_var 12).toB v_non.toB) (av_cons (f_lc [("one", 6)] (i_val (v_var 11)) (g_nm 6) ts_nil (v_call 11 (av_cons (v_var 24) (av_cons (v_var 6) av_nil)))).toV av_nil)))))))
  (ss_cons (s_if (tw_or (t_not (t_val (v_bor 16 (v_call 12 (av_cons (v_var 16) (av_cons (f_lst (av_cons (v_callT c_tuple (ab_cons (f_callB c_sorted (ab_cons (v_var 5).toB ab_nil)).toV.toB ab_nil)) (av_cons (f_lc [("one", 6)] (i_val (v_call 5 (av_cons (v_var 4) av_nil))) (g_nm 6) ts_nil (v_cmp1 o_in (v_var 6) (v_var 13).toB)).toV (av_cons (v_cmp o_ne (v_var 13).toB (f_lst av_nil).toV.toB) (av_cons (v_cmp o_eq (v_var 13).toB (f_lst av_nil).toV.toB) (av_cons (v_bin o_mul (f_lst (av_cons v_bl av_nil)).toV.toB (v_callB c_len (ab_cons (v_var 11).toB ab_nil)).toB) av_nil)))))).toV av_nil)))).toB)) (tw_or1 (t_cmp o_ne (v_var 13).toB (v_var 14).toB))).t (ss_one (s_ret v_bl)) ss_nil)
  (ss_cons (s_if (t_cmp o_eq (v_var 13).toB (f_lst av_nil).toV.toB) (ss_cons (s_if (t_cmp o_isnot (v_call 13 (av_cons (v_var 24) (av_cons (v_var 15) av_nil))).toB v_bl.toB) (ss_one (s_ret v_bl)) ss_nil)
  (ss_cons (s_setF 16 (f_lst (av_cons (v_heard 0 (fun ε => (v_call 14 (av_cons (v_var 24) (av_cons v_int av_nil))))) av_nil)))
  (ss_cons (s_append 16 (v_heard 0 (fun ε => (v_call 15 (av_cons (v_var 24) av_nil)))))
  (ss_cons (s_append 16 (v_heard 0 (fun ε => (v_call 16 (av_cons (v_var 24) av_nil)))))
  (ss_cons (s_append 16 (v_heard 0 (fun ε => (v_call 17 (av_cons (v_var 24) av_nil)))))
  (ss_cons (s_if (t_not (t_val (v_bor 16 (v_call 12 (av_cons (v_var 16) (av_cons (v_bin o_mul (f_lst (av_cons (v_tup (av_cons v_str (av_cons v_str av_nil))) av_nil)).toV.toB v_int.toB) av_nil)))).toB)) (ss_one (s_ret v_bl)) ss_nil)
  (ss_one s_cont))))))) ss_nil)
  (ss_cons (s_if (tw_or (t_cmp1 o_notin (v_var 12) (v_var 13).toB) (tw_or (t_cmp o_isnot (v_call 11 (av_cons (v_var 24) (av_cons (v_call 18 (av_cons (v_var 24) (av_cons (v_var 12) av_nil))) av_nil))).toB v_bl.toB) (tw_or1 (t_not (t_val (v_call 6 (av_cons (v_call 18 (av_cons (v_var 24) (av_cons (v_var 12) av_nil))) (av_cons (v_var 12) av_nil))).toB))))).t (ss_one (s_ret v_bl)) ss_nil)
  (ss_cons (s_set 17 (f_lc [("one", 6)] (i_val (v_var 11)) (g_nm 6) (ts_one (t_cmp o_ne (v_call 19 (av_cons (v_var 6) av_nil)).toB (f_lst av_nil).toV.toB)) (v_var 6)).toV)
  (ss_cons (s_setLc 18 [("one", 6)] (i_range1 (ab_cons (v_var 4).toB ab_nil)) (g_nm 6) ts_nil (f_lc [("lot", 12)] (i_val (v_var 13)) (g_nm 12) ts_nil (v_cmp1 o_in (v_var 6) (v_var 12).toB)).toV)
  (ss_cons (s_setF 19 (f_lst av_nil))
  (ss_cons (s_for (i_range1 (ab_cons (v_var 4).toB ab_nil)) (g_nm 6) (ss_cons (s_set 20 (v_callB c_len (ab_cons (f_lc [("its", 28)] (i_val (v_ix (v_var 18).toB (v_var 6))) (g_nm 28) (ts_one (t_val (v_var 28).toB)) v_int).toV.toB ab_nil)))
  (ss_one (s_append 19 (v_tup (av_cons (v_callB c_max (ab_cons (v_var 20).toB (ab_cons (v_bin o_sub (v_callB c_len (ab_cons (v_var 13).toB ab_nil)).toB (v_var 20).toB).toB ab_nil))) (av_cons (v_var 6) av_nil)))))))
  (ss_cons (s_setLc 21 [("own", 29)] (i_val (v_var 18)) (g_nm 29) ts_nil (v_if (tw_and (t_cmp1 o_in v_bl (v_var 29).toB) (tw_and1 (t_cmp1 o_in v_bl (v_var 29).toB))).t v_str (v_if (t_cmp1 o_in v_bl (v_var 29).toB) v_str v_str)))
  (ss_cons (s_setF 16 (f_lst (av_cons (f_lc [("one", 6)] (i_range1 (ab_cons (v_var 4).toB ab_nil)) (g_nm 6) ts_nil (v_call 14 (av_cons (v_var 24) (av_cons (v_var 6) av_nil)))).toV (av_cons (v_call 15 (av_cons (v_var 24) av_nil)) (av_cons (v_call 16 (av_cons (v_var 24) av_nil)) (av_cons (v_call 17 (av_cons (v_var 24) av_nil)) (av_cons (v_call 20 (av_cons (v_var 24) av_nil)) av_nil)))))))
  (ss_cons (s_set 22 (v_callT c_tuple (ab_cons (f_lc [("one", 6)] (i_val (f_callB c_sorted (ab_cons (v_var 5).toB ab_nil)).toV) (g_nm 6) (ts_one (t_cmp o_eq (f_lc [("its", 28)] (i_val (v_var 17)) (g_nm 28) (ts_one (t_cmp1 o_notin (v_var 6) (v_ix (v_var 28).toB v_int).toB)) (v_var 28)).toV.toB (f_lst av_nil).toV.toB)) (v_var 6)).toV.toB ab_nil)))
  (ss_cons (s_set 23 (v_callT c_tuple (ab_cons (f_lc [("one", 6)] (i_val (f_callB c_sorted (ab_cons (v_var 5).toB ab_nil)).toV) (g_nm 6) (ts_one (t_cmp o_eq (f_lc [("its", 28)] (i_val (v_var 17)) (g_nm 28) (ts_one (t_cmp1 o_in (v_var 6) (v_ix (v_var 28).toB v_int).toB)) (v_var 28)).toV.toB (f_lst av_nil).toV.toB)) (v_var 6)).toV.toB ab_nil)))
  (ss_one (s_if (t_not (t_val (v_bor 16 (v_call 12 (av_cons (v_var 16) (av_cons (f_lst (av_cons (v_var 21) (av_cons (v_callB c_len (ab_cons (v_var 13).toB ab_nil)) (av_cons (v_if (t_cmp o_gt (v_callB c_len (ab_cons (v_var 13).toB ab_nil)).toB v_int.toB) (v_ix (v_callB c_min (ab_cons (b_var 19) ab_nil)).toB v_int) v_non) (av_cons (v_var 22) (av_cons (v_var 23) av_nil)))))).toV av_nil)))).toB)) (ss_one (s_ret v_bl)) ss_nil))))))))))))))))))))))))))
  (ss_one (s_ret v_bl))))⟩
def F_law (ε : Eps) : List D → W D := defW 1 30 (B_law ε).1
end
end P98

set_option Elab.async false
set_option linter.all false
set_option maxRecDepth 100000
set_option maxHeartbeats 1000000
namespace P98
open PySem PySem.Spec PyProof.Rows L2 PW
section
local macro_rules | `(tactic| array_get_dec) => `(tactic| simp only [seqW, W.run_bind, W.run_pure, W.run_need, W.run_fail, W.run_fa, W.run_ite, W.pure_bind, W.fail_bind, W.bind_assoc, W.ite_bind, W.some?_some, getV_zero, getV_succ, startE, List.length_cons, List.length_nil, List.map_cons, List.map_nil, List.cons_append, List.nil_append, List.replicate, List.set_cons_zero, List.set_cons_succ, D.eq_int, D.ne_int, D.add_int, D.add_lst, D.add_tup, D.sub_int, D.mul_int, D.mul_lst, D.fdiv_int, D.mod_int, D.lt_int, D.le_int, D.gt_int, D.ge_int, D.tr_bl, D.truth_bl, D.int1_int, D.int1_bl, D.asInt_int, D.slice_lst, D.slice_tup, D.ix_lst, D.ix_tup, D.bagI_bag, D.bagC_bag, D.bagSet_bag, D.bagAdd_int, D.isBag_bag, D.len_lst, D.len_tup, D.min_int, D.max_int, D.abs_int, D.neg_int, D.tuple_lst, D.tuple_tup, D.iter_lst, D.iter_tup, D.items_lst, D.items_tup, D.rev_lst, atI_zero, atI_one, atI_two, atI_three, atI_four, atI_neg1, setAll_nil, setAll_cons, Tgt.set_nm, Tgt.set_tp, fin_rt, fin_nx, decide_eq_true_eq, Bool.false_eq_true, if_true, if_false])
theorem cmul_of {i j : Int} (h : 0 ≤ j ∧ j < 1073741824) : CMul i j := .inr ⟨by omega, by omega⟩
theorem cmul_ofL {i j : Int} (h : 0 ≤ i ∧ i < 1073741824) : CMul i j := .inl ⟨by omega, by omega⟩
theorem cmul_ofM {i j : Int} : CMul (i % 1000000007) j := .inl ⟨by omega, by omega⟩
/-- behind the stirring -/
theorem take_tail {n : Int} (hn : 1 ≤ n ∧ n < 1073741824) {Q : D → Prop} (h : ∀ k : Int, 0 ≤ k ∧ k < n → Q (.int k)) (i : Int) (hi : binv 0 i) :
    if 0 < i then ∀ (i : Int), binv 0 i → 0 < n ∧ ∀ (i_2 : Int), binv 0 i_2 → CDiv i_2 n ∧ binv 0 (i_2 / n) ∧ Q (.int (i % n))
    else ∀ (i : Int), binv 1 i → CMul (i + 1) 39373 ∧ 0 < (1000000007 : Int) ∧ CMul ((i + 1) * 39373 % 1000000007) ((i + 1) * 39373 % 1000000007) ∧ 0 < (998244353 : Int) ∧ CMul ((i + 1) * 39373 % 1000000007 * ((i + 1) * 39373 % 1000000007) % 998244353) 30011 ∧ 0 < (998244353 : Int) ∧
      CDiv ((i + 1) * 39373 % 1000000007 * ((i + 1) * 39373 % 1000000007) % 998244353 * 30011 % 998244353) 7 ∧ 0 < n ∧ Q (.int (((i + 1) * 39373 % 1000000007 * ((i + 1) * 39373 % 1000000007) % 998244353 * 30011 % 998244353) / 7 % n)) := by
  split
  · intro j hj
    refine ⟨by omega, fun k hk => ⟨⟨by omega, hn.2⟩, ⟨Int.ediv_nonneg hk.1 (by omega), fun e => by omega⟩, h _ ⟨Int.emod_nonneg _ (by omega), Int.emod_lt_of_pos _ (by omega)⟩⟩⟩
  · intro j hj
    exact ⟨cmul_of (by decide), by decide, cmul_ofM, by decide, cmul_of (by decide), by decide, ⟨by decide, by decide⟩, by omega, h _ ⟨Int.emod_nonneg _ (by omega), Int.emod_lt_of_pos _ (by omega)⟩⟩
theorem take_ok {ε : Eps} {n : Int} (hn : 1 ≤ n ∧ n < 1073741824) {Q : D → Prop} (h : ∀ k : Int, 0 ≤ k ∧ k < n → Q (.int k)) : (G__law_take ε [.bag, .int n]).run Q := by
  unfold G__law_take defW B__law_take
  array_get_dec
  refine ⟨True.intro, fun i hi => ?_⟩
  split
  · intro cs hcs k hk
    refine ⟨by unfold sizeLine; omega, ?_, ?_⟩
    · unfold cutL sizeLine
      rw [List.length_take, List.length_drop, List.length_map]
      have := hcs.2
      omega
    · obtain ⟨x, hx, e⟩ : ∃ x : Int, 0 ≤ x ∧ atI (cutL (List.map D.int cs) (some k) none ++ [D.int 0]) 0 = some (.int x) := by
        rw [atI_nn _ (by decide)]
        cases q : cutL (List.map D.int cs) (some k) none with
        | nil => exact ⟨0, by decide, rfl⟩
        | cons d ds =>
          have hm : d ∈ cutL (List.map D.int cs) (some k) none := by rw [q]; exact List.mem_cons_self
          have hm2 : d ∈ cs.map D.int := List.mem_of_mem_drop (List.mem_of_mem_take hm)
          obtain ⟨x, hx, rfl⟩ := List.mem_map.mp hm2
          exact ⟨x, hcs.1 x hx, rfl⟩
      rw [e]
      array_get_dec
      refine ⟨by omega, ?_⟩
      split
      · refine ⟨⟨hx, fun e => by omega⟩, fun j hj => ⟨cmul_of (by decide), by decide, fun l hl => ⟨cmul_ofL (by decide), by decide, ⟨Int.emod_nonneg _ (by omega), fun _ => by omega⟩, ?_⟩⟩⟩
        exact take_tail hn h
      · refine fun j hj => ⟨cmul_of (by decide), by decide, fun l hl => ⟨cmul_ofL (by decide), by decide, ⟨Int.emod_nonneg _ (by omega), fun _ => by omega⟩, ?_⟩⟩
        exact take_tail hn h
  · exact take_tail hn h
theorem take_ref : ∀ (ε : Eps) (ds : List D) (Q : D → Prop), (F__law_take ε ds).run Q → (G__law_take ε ds).run Q := by
  intro ε ds Q h
  unfold F__law_take at h
  split at h
  · obtain ⟨hn, h⟩ := h
    exact take_ok hn h
  · exact (show False from h).elim
theorem bag_ref : ∀ (ε : Eps) (ds : List D) (Q : D → Prop), (F__law_bag ε ds).run Q → (G__law_bag ε ds).run Q := by
  intro ε ds Q h
  unfold F__law_bag at h
  split at h
  · unfold G__law_bag defW B__law_bag
    array_get_dec
    refine ⟨True.intro, ?_⟩
    unfold lcW
    array_get_dec
    show (D.scr63 .scr).run _
    unfold D.scr63
    array_get_dec
    intro ns hl
    show (compW (.nm 1) (fun x => W.pure true) _ (ns.map D.int) [some D.scr, none] []).run _
    rw [comp_nm ns D.int (fun _ => true) (fun i => .int (if i < 0 then -i else i)) (fun _ _ => rfl) (fun _ _ _ => rfl), List.filter_eq_self.mpr fun _ _ => rfl]
    array_get_dec
    unfold D.mkBag
    have e : D.ints (ns.map fun i => D.int (if i < 0 then -i else i)) = some (ns.map fun i : Int => if i < 0 then -i else i) := by
      induction ns with
      | nil => rfl
      | cons n ns ih => rw [List.map_cons, List.map_cons, D.ints, ih (by rw [List.length_cons] at hl; omega)]; rfl
    show ((W.some? (D.ints (ns.map fun i => D.int (if i < 0 then -i else i)))).bind _).run _
    rw [e]
    array_get_dec
    refine ⟨⟨by decide, by decide, by decide, ?_, by rw [List.length_map]; exact hl⟩, h⟩
    intro x hx
    obtain ⟨y, _, rfl⟩ := List.mem_map.mp hx
    split <;> omega
  · exact (show False from h).elim
end
end P98

set_option Elab.async false
set_option linter.all false
set_option maxRecDepth 100000
set_option maxHeartbeats 1000000
namespace P98
open PySem PySem.Spec PyProof.Rows L2 PW Cod
section
local macro_rules | `(tactic| array_get_dec) => `(tactic| try simp only [W.need_len, W.need_len1, W.need_len2, W.need_len3, W.need_len4, W.need_sz0, W.need_sz1, W.need_sz2, W.need_sz3, W.need_sz4, W.need_sz5, mo_eps, nox_eps, inLam_eps, forW_nil, forW_cons, Bool.true_and, Bool.not_true, Bool.not_false, wipeE, W.bind_pure, W.need_T, D.asLst_lst, seqW, W.run_bind, W.run_pure, W.run_need, W.run_fail, W.run_fa, W.run_ite, W.pure_bind, W.fail_bind, W.bind_assoc, W.ite_bind, W.some?_some, getV_zero, getV_succ, startE, List.length_cons, List.length_nil, List.map_cons, List.map_nil, List.cons_append, List.nil_append, List.replicate, List.set_cons_zero, List.set_cons_succ, D.eq_int, D.ne_int, D.add_int, D.add_lst, D.add_tup, D.sub_int, D.mul_int, D.mul_0, D.mul_1, D.mul_one, D.fdiv_int, D.mod_int, D.lt_int, D.le_int, D.gt_int, D.ge_int, D.tr_bl, D.truth_bl, D.int1_int, D.int1_bl, D.asInt_int, D.slice_lst, D.slice_tup, D.ix_lst, D.ix_tup, D.bagI_bag, D.bagC_bag, D.bagSet_bag, D.bagAdd_int, D.isBag_bag, D.len_lst, D.len_tup, D.min_int, D.max_int, D.abs_int, D.neg_int, D.tuple_lst, D.tuple_tup, D.iter_lst, D.iter_tup, D.items_lst, D.items_tup, D.rev_lst, atI_zero, atI_one, atI_two, atI_three, atI_four, atI_neg1, setAll_nil, setAll_cons, Tgt.set_nm, Tgt.set_tp, fin_rt, fin_nx, W.ite_and, W.ite_or, W.ite_andD, W.ite_orD, Bool.false_eq_true, if_true, if_false])
abbrev Tb := Int × List (Int × Int)
def Tb.e (T : Tb) : D := .tup [.int T.1, .tup (T.2.map enc)]
structure Tb.Ok (T : Tb) : Prop where
  n0 : 0 ≤ T.1
  n6 : T.1 ≤ 6
  nd : T.2.Nodup
  mem : ∀ c ∈ T.2, 0 ≤ c.1 ∧ c.1 < c.2 ∧ c.2 < T.1
def Tb.kn (T : Tb) (a b : Int) : Bool := decide ((min a b, max a b) ∈ T.2)
theorem minI (a b : Int) : (if b < a then b else a) = min a b := by
  by_cases h : b < a <;> simp [h] <;> omega
theorem maxI (a b : Int) : (if b > a then b else a) = max a b := by
  by_cases h : b > a <;> simp [h] <;> omega
theorem cpl_len (n : Int) (h6 : n ≤ 6) : (cpl n).length ≤ 36 := by
  unfold cpl
  rw [List.length_flatMap]
  have : ∀ xs : List Int, ((xs.map fun a => ((rngI (a + 1) n).map fun b => (a, b)).length)).sum ≤ xs.length * 6 ∨ ∃ x ∈ xs, x < 0 := by
    intro xs
    induction xs with
    | nil => exact .inl (by simp)
    | cons x xs ih =>
      by_cases hx : x < 0
      · exact .inr ⟨x, List.mem_cons_self, hx⟩
      · rcases ih with ih | ⟨y, hy, hy2⟩
        · refine .inl ?_
          rw [List.map_cons, List.sum_cons, List.length_cons, List.length_map, rngI_length]
          omega
        · exact .inr ⟨y, List.mem_cons_of_mem _ hy, hy2⟩
  rcases this (rngI 0 n) with h | ⟨x, hx, h⟩
  · rw [rngI_length] at h
    omega
  · have := mem_rngI.mp hx
    omega
theorem law_couples {ε : Eps} (n : Int) (h0 : 0 ≤ n) (h6 : n ≤ 6) : F__law_couples ε [.int n] = W.pure (.lst ((cpl n).map enc)) := by
  unfold F__law_couples defW B__law_couples
  array_get_dec
  rw [D.rng1_int ⟨by omega, by omega⟩]
  array_get_dec
  refine for_bind (e := enc) (fun done ρ => ∃ o p, ρ = [some (.int n), some (.lst ((done.flatMap fun a => (rngI (a + 1) n).map fun b => (a, b)).map enc)), o, p]) (rngI 0 n) [some (.int n), some (.lst []), none, none] ⟨none, none, rfl⟩ (fun done x rest ρ hx ⟨o, p, hρ⟩ => by
    subst hρ
    have hm : x ∈ rngI 0 n := by rw [← hx]; simp
    have hm := mem_rngI.mp hm
    have hd : ((done.flatMap fun a => (rngI (a + 1) n).map fun b => (a, b)).map (enc (α := Int × Int))).length ≤ 36 := by
      have h36 := cpl_len n h6
      unfold cpl at h36
      rw [← hx, List.flatMap_append, List.length_append] at h36
      rw [List.length_map]
      omega
    rw [List.length_map] at hd
    refine ⟨[some (.int n), some (.lst (((done ++ [x]).flatMap fun a => (rngI (a + 1) n).map fun b => (a, b)).map enc)), some (.int x), p], .inl ?_, some (.int x), p, rfl⟩
    array_get_dec
    rw [enc_int, lc_map (rngI (x + 1) n) enc (fun b => enc (x, b)) (by array_get_dec; rw [D.rng2_int (by omega) (by omega) (by omega) (by omega) (by omega)]) rfl (fun y _ => rfl)]
    array_get_dec
    rw [W.need_size (by rw [List.length_map, List.length_map, rngI_length]; omega), List.flatMap_append, List.flatMap_cons, List.flatMap_nil, List.append_nil, List.map_append, List.map_map]
    rfl) (fun ρ' ⟨o, p, e⟩ => by
      subst e
      array_get_dec
      rfl)
def Tb.full (T : Tb) (l : List Int) : Bool := l.all fun a => l.all fun b => decide (a = b) || T.kn a b
def Tb.empt (T : Tb) (l : List Int) : Bool := l.all fun a => l.all fun b => decide (a = b) || !T.kn a b
def Tb.oth (T : Tb) (l : List Int) : List Int := (rngI 0 T.1).filter fun x => !decide (x ∈ l)
def Tb.parts (T : Tb) (l : List Int) : Bool := T.full l && T.empt (T.oth l)
theorem oth_len (T : Tb) (hT : T.Ok) (l : List Int) : (T.oth l).length ≤ 6 := by
  have h0 := hT.n0
  have h6 := hT.n6
  unfold Tb.oth
  refine Nat.le_trans (List.length_filter_le _ _) ?_
  rw [rngI_length]
  omega
/-- a < b known: as a couple -/
theorem kn_lt {T : Tb} {a b : Int} (h : a < b) : T.kn a b = decide ((a, b) ∈ T.2) := by
  unfold Tb.kn
  rw [Int.min_eq_left (by omega), Int.max_eq_right (by omega)]
theorem kn_symm (T : Tb) (a b : Int) : T.kn a b = T.kn b a := by
  unfold Tb.kn
  rw [Int.min_comm, Int.max_comm]
theorem law_full {ε : Eps} (T : Tb) (hT : T.Ok) (l : List Int) (hl : ∀ x ∈ l, 0 ≤ x ∧ x < T.1) : F__law_full ε [T.e, enc l] = W.pure (.bl (T.full l)) := by
  have h0 := hT.n0
  have h6 := hT.n6
  unfold F__law_full defW B__law_full Tb.e
  array_get_dec
  rw [lc_tp (cpl T.1) (fun c => enc c.1) (fun c => enc c.2) (fun c => decide (c.1 ∈ l) && (decide (c.2 ∈ l) && !decide (c ∈ T.2))) (fun _ => enc (1 : Int)) (by
      array_get_dec
      rw [law_couples _ h0 h6]
      array_get_dec
      rfl) rfl (fun c _ => by
      array_get_dec
      rw [enc_list, D.in_tup, D.in_tup, show D.tup [enc c.1, enc c.2] = enc c from rfl, D.notIn_tup]
      array_get_dec) (fun c _ _ => rfl)]
  array_get_dec
  rw [D.eq_nil_map _ fun _ => (1 : Int)]
  congr 2
  rw [Bool.eq_iff_iff, decide_eq_true_eq, List.filter_eq_nil_iff]
  unfold Tb.full
  rw [List.all_eq_true]
  constructor
  · intro h a ha
    rw [List.all_eq_true]
    intro b hb
    rw [Bool.or_eq_true, decide_eq_true_eq]
    by_cases hab : a = b
    · exact .inl hab
    · refine .inr ?_
      have key : ∀ a b, a ∈ l → b ∈ l → a < b → T.kn a b = true := fun a b ha hb hlt => by
        have h1 := h (a, b) (mem_cpl.mpr ⟨(hl a ha).1, hlt, (hl b hb).2⟩)
        rw [kn_lt hlt, decide_eq_true_eq]
        simpa [ha, hb] using h1
      rcases Int.lt_or_gt_of_ne hab with hlt | hlt
      · exact key a b ha hb hlt
      · rw [kn_symm]
        exact key b a hb ha hlt
  · intro h c hc
    have hc := mem_cpl.mp hc
    intro hh
    simp only [Bool.and_eq_true, decide_eq_true_eq, Bool.not_eq_true', decide_eq_false_iff_not] at hh
    obtain ⟨h1, h2, h3⟩ := hh
    have h4 := List.all_eq_true.mp (h c.1 h1) c.2 h2
    rw [Bool.or_eq_true, decide_eq_true_eq, kn_lt hc.2.1, decide_eq_true_eq] at h4
    rcases h4 with h4 | h4
    · omega
    · exact h3 h4
theorem kn_ok {T : Tb} (hT : T.Ok) {a b : Int} (h : T.kn a b = true) : 0 ≤ a ∧ a < T.1 ∧ 0 ≤ b ∧ b < T.1 ∧ a ≠ b := by
  unfold Tb.kn at h
  have h := hT.mem _ (of_decide_eq_true h)
  simp only at h
  omega
theorem law_empty {ε : Eps} (T : Tb) (hT : T.Ok) (l : List Int) : F__law_empty ε [T.e, enc l] = W.pure (.bl (T.empt l)) := by
  unfold F__law_empty defW B__law_empty Tb.e
  array_get_dec
  rw [lc_tp T.2 (fun c => enc c.1) (fun c => enc c.2) (fun c => decide (c.1 ∈ l) && decide (c.2 ∈ l)) (fun _ => enc (1 : Int)) (by
      array_get_dec
      rfl) rfl (fun c _ => by
      array_get_dec
      rw [enc_list, D.in_tup, D.in_tup]
      array_get_dec) (fun c _ _ => rfl)]
  array_get_dec
  rw [D.eq_nil_map _ fun _ => (1 : Int)]
  congr 2
  rw [Bool.eq_iff_iff, decide_eq_true_eq, List.filter_eq_nil_iff]
  unfold Tb.empt
  rw [List.all_eq_true]
  constructor
  · intro h a ha
    rw [List.all_eq_true]
    intro b hb
    rw [Bool.or_eq_true, decide_eq_true_eq, Bool.not_eq_true']
    by_cases hab : a = b
    · exact .inl hab
    · refine .inr ?_
      have key : ∀ a b, a ∈ l → b ∈ l → a < b → T.kn a b = false := fun a b ha hb hlt => by
        rw [kn_lt hlt, decide_eq_false_iff_not]
        intro hm
        exact h (a, b) hm (by simp [ha, hb])
      rcases Int.lt_or_gt_of_ne hab with hlt | hlt
      · exact key a b ha hb hlt
      · rw [kn_symm]
        exact key b a hb ha hlt
  · intro h c hc hh
    have hm := hT.mem c hc
    simp only [Bool.and_eq_true, decide_eq_true_eq] at hh
    have h4 := List.all_eq_true.mp (h c.1 hh.1) c.2 hh.2
    rw [Bool.or_eq_true, decide_eq_true_eq, kn_lt hm.2.1, Bool.not_eq_true', decide_eq_false_iff_not] at h4
    rcases h4 with h4 | h4
    · omega
    · exact h4 hc
def lots0 (xs : List Int) : List (List Int) := xs.foldl (fun acc one => acc ++ acc.map (· ++ [one])) [[]]
theorem lots0_snoc (xs : List Int) (x : Int) : lots0 (xs ++ [x]) = lots0 xs ++ (lots0 xs).map (· ++ [x]) := by
  unfold lots0
  rw [List.foldl_append]
  rfl
theorem snoc_ind {α : Type} {P : List α → Prop} (h0 : P []) (hs : ∀ xs x, P xs → P (xs ++ [x])) (xs : List α) : P xs := by
  have h : ∀ ys : List α, P ys.reverse := fun ys => by
    induction ys with
    | nil => exact h0
    | cons y ys ih => rw [List.reverse_cons]; exact hs _ _ ih
  have := h xs.reverse
  rwa [List.reverse_reverse] at this
theorem lots0_len (xs : List Int) : (lots0 xs).length = 2 ^ xs.length := by
  induction xs using snoc_ind with
  | h0 => rfl
  | hs xs x ih =>
    rw [lots0_snoc, List.length_append, List.length_map, ih, List.length_append, List.length_cons, List.length_nil, Nat.pow_succ]
    omega
theorem mem_lots0 (xs : List Int) : ∀ l, l ∈ lots0 xs ↔ l.Sublist xs := by
  induction xs using snoc_ind with
  | h0 => intro l; simp [lots0]
  | hs xs x ih =>
    intro l
    rw [lots0_snoc, List.mem_append, List.mem_map]
    constructor
    · rintro (h | ⟨m, h, rfl⟩)
      · exact ((ih l).mp h).trans (List.sublist_append_left _ _)
      · exact ((ih m).mp h).append (List.Sublist.refl _)
    · intro h
      obtain ⟨l1, l2, rfl, h1, h2⟩ := List.sublist_append_iff.mp h
      cases l2 with
      | nil => exact .inl (by rw [List.append_nil]; exact (ih _).mpr h1)
      | cons y ys =>
        have e := h2.length_le
        have hy : ys = [] := by
          cases ys with
          | nil => rfl
          | cons _ _ => simp at e
        subst hy
        have : y = x := by simpa using h2.subset (List.mem_cons_self (a := y) (l := []))
        subst this
        exact .inr ⟨l1, (ih _).mpr h1, rfl⟩
theorem lots_64 {xs : List Int} (h : xs.length ≤ 6) : (lots0 xs).length ≤ 64 := by
  rw [lots0_len]
  exact Nat.pow_le_pow_right (n := 2) (by decide) h
theorem law_lots {ε : Eps} (n : Int) (h0 : 0 ≤ n) (h6 : n ≤ 6) : F__law_lots ε [.int n] = W.pure (.lst ((csort (lots0 (rngI 0 n))).map enc)) := by
  unfold F__law_lots defW B__law_lots
  array_get_dec
  rw [D.rng1_int ⟨by omega, by omega⟩]
  array_get_dec
  refine for_bind (e := enc) (fun done ρ => ∃ o p, ρ = [some (.int n), some (.lst ((lots0 done).map enc)), o, p]) (rngI 0 n) _ ⟨none, none, rfl⟩ (fun done x rest ρ hx ⟨o, p, hρ⟩ => by
    subst hρ
    have hl : done.length ≤ 6 := by
      have e := congrArg List.length hx
      rw [List.length_append, List.length_cons, rngI_length] at e
      omega
    have h64 := lots_64 hl
    refine ⟨[some (.int n), some (.lst ((lots0 (done ++ [x])).map enc)), some (.int x), p], .inl ?_, some (.int x), p, rfl⟩
    array_get_dec
    rw [enc_int, lc_map (lots0 done) enc (fun l => enc (l ++ [x])) rfl rfl (fun l hm => by
      have hs := ((mem_lots0 done l).mp hm).length_le
      array_get_dec
      rw [enc_list]
      array_get_dec
      rw [W.need_size (by rw [List.length_map]; omega), enc_list, List.map_append]
      rfl)]
    array_get_dec
    rw [W.need_size (by rw [List.length_map, List.length_map]; omega), lots0_snoc, List.map_append, List.map_map]
    rfl) (fun ρ' ⟨o, p, e⟩ => by
      subst e
      array_get_dec
      have h64 := lots_64 (xs := rngI 0 n) (by rw [rngI_length]; omega)
      rw [D.sorted_lst _ (size_le (by omega))])
theorem is_integer {ε : Eps} (i : Int) : F_is_integer ε [.int i] = W.pure (.bl true) := by
  unfold F_is_integer defW B_is_integer
  array_get_dec
  rfl
theorem are_all {ε : Eps} (l : List Int) : F_are_all ε [enc l, .fn "is_integer"] = W.pure (.bl true) := by
  unfold F_are_all defW B_are_all
  array_get_dec
  rw [D.isi_tup]
  array_get_dec
  rw [lc_map l enc (fun _ => .bl true) rfl rfl (fun x _ => by
    array_get_dec
    rw [show (M_are_all ε).nox.fnOf (.fn "is_integer") = W.pure (F_is_integer eps0) from rfl]
    array_get_dec
    rw [enc_int, is_integer])]
  array_get_dec
  rw [D.all_map]
  congr 2
  rw [List.all_eq_true]
  exact fun _ _ => rfl
theorem are_integers {ε : Eps} (l : List Int) : F_are_integers ε [enc l] = W.pure (.bl true) := by
  unfold F_are_integers defW B_are_integers
  array_get_dec
  rw [show (D.fn (Str.ofString "is_integer")) = D.fn "is_integer" from rfl, are_all]
theorem do_rise {ε : Eps} (l : List Int) : F_do_rise ε [enc l] = W.pure (.bl (decide (l.Pairwise fun a b => a < b))) := by
  unfold F_do_rise defW B_do_rise
  array_get_dec
  rw [are_integers]
  array_get_dec
  rw [lc_tpmap (l.zip (l.drop 1)) (fun x => enc x.1) (fun x => enc x.2) (fun p => .bl (decide (p.1 < p.2))) (by
      array_get_dec
      rw [enc_list]
      array_get_dec
      rw [show (1 : Int) = ((1 : Nat) : Int) from rfl, cutL_drop, ← List.map_drop, D.zip_tup]
      rfl) rfl (fun p _ => by
      array_get_dec
      rw [enc_int, enc_int]
      array_get_dec)]
  array_get_dec
  rw [D.all_map, rise_iff]
def Tb.isLot (T : Tb) (l : List Int) : Bool := decide (l.Pairwise fun a b => a < b) && l.all fun x => decide (0 ≤ x) && decide (x < T.1)
theorem is_lot {ε : Eps} (T : Tb) (l : List Int) : F_is_lot ε [T.e, enc l] = W.pure (.bl (T.isLot l)) := by
  unfold F_is_lot defW B_is_lot
  array_get_dec
  rw [are_integers]
  array_get_dec
  rw [do_rise]
  array_get_dec
  rw [lc_map l enc (fun x => .bl (decide (0 ≤ x) && decide (x < T.1))) rfl rfl (fun x _ => by
      unfold Tb.e
      array_get_dec
      rw [enc_int]
      array_get_dec)]
  array_get_dec
  rw [D.all_map]
  array_get_dec
  rfl
def Tb.V (T : Tb) : List Int := rngI 0 T.1
theorem V_len (T : Tb) (hT : T.Ok) : T.V.length ≤ 6 := by unfold Tb.V; rw [rngI_length]; have := hT.n6; omega
theorem law_alike {ε : Eps} (d : D) (ha : d.alk = true) (hn : d.nodes ≤ 100000) {Q : D → Prop} (q : Q (.bl true)) : (F__law_alike ε [d, d]).run Q := by
  unfold F__law_alike defW B__law_alike
  array_get_dec
  refine while_run (fun n ρ => ∃ (ps : List D) (at' : Nat) (o4 o5 : Option D), ρ = [some d, some d, some (.lst (ps.map dup)), some (.int at'), o4, o5] ∧ D.alkL ps = true ∧ D.nodesL (ps.drop at') ≤ n ∧ at' + D.nodesL (ps.drop at') ≤ d.nodes ∧ at' ≤ ps.length) (n := d.nodes) ⟨[d], 0, none, none, rfl, by rw [D.alkL, ha]; rfl, by simp [D.nodesL], by simp [D.nodesL], by simp⟩ ?_
  rintro n ρ ⟨ps, at', o4, o5, rfl, hp, h1, h2, h3⟩
  array_get_dec
  rw [List.length_map]
  by_cases hlt : at' < ps.length
  · have hx : ps.drop at' = ps[at'] :: ps.drop (at' + 1) := List.drop_eq_getElem_cons hlt
    have hxa : (ps[at']).alk = true := D.alkL_iff.mp hp _ (List.getElem_mem hlt)
    have hget : atI (ps.map dup) (at' : Int) = some (dup ps[at']) := by rw [PW.atI_nat, List.getElem?_map, List.getElem?_eq_getElem hlt]; rfl
    rw [hx, D.nodesL] at h1 h2
    rw [decide_eq_true (show (at' : Int) < (ps.length : Int) by omega), if_pos rfl, hget]
    generalize ps[at'] = x at hxa h1 h2
    have e1 : ((at' : Int) + 1) = ((at' + 1 : Nat) : Int) := by omega
    have stay : x.nodes = 1 → ∃ m, m < n ∧ ∃ (ps' : List D) (at'' : Nat) (o4 o5 : Option D), [some d, some d, some (D.lst (ps.map dup)), some (.int ((at' : Int) + 1)), some x, some x] = [some d, some d, some (.lst (ps'.map dup)), some (.int at''), o4, o5] ∧ D.alkL ps' = true ∧ D.nodesL (ps'.drop at'') ≤ m ∧ at'' + D.nodesL (ps'.drop at'') ≤ d.nodes ∧ at'' ≤ ps'.length := fun hx1 =>
      ⟨D.nodesL (ps.drop (at' + 1)), by omega, ps, at' + 1, some x, some x, by rw [e1], hp, by omega, by omega, by omega⟩
    have hlen := D.len_nodes (ps.drop (at' + 1))
    rw [List.length_drop] at hlen
    have more : ∀ xs : List D, x.nodes = D.nodesL xs + 1 → D.alkL xs = true → ∃ m, m < n ∧ ∃ (ps' : List D) (at'' : Nat) (o4 o5 : Option D), [some d, some d, some (D.lst (ps.map dup ++ xs.map dup)), some (.int ((at' : Int) + 1)), some x, some x] = [some d, some d, some (.lst (ps'.map dup)), some (.int at''), o4, o5] ∧ D.alkL ps' = true ∧ D.nodesL (ps'.drop at'') ≤ m ∧ at'' + D.nodesL (ps'.drop at'') ≤ d.nodes ∧ at'' ≤ ps'.length := fun xs hx1 hxs => by
      have e2 : D.nodesL ((ps ++ xs).drop (at' + 1)) = D.nodesL (ps.drop (at' + 1)) + D.nodesL xs := by rw [List.drop_append_of_le_length (by omega), D.nodesL_append]
      refine ⟨D.nodesL (ps.drop (at' + 1)) + D.nodesL xs, by omega, ps ++ xs, at' + 1, some x, some x, by rw [e1, List.map_append], D.alkL_iff.mpr fun y hy => ?_, by omega, by omega, by rw [List.length_append]; omega⟩
      rcases List.mem_append.mp hy with hy | hy
      · exact D.alkL_iff.mp hp y hy
      · exact D.alkL_iff.mp hxs y hy
    have hset : ∀ ρ : PW.Env, (Tgt.tp [4, 5]).set (dup x) ρ = W.pure ((ρ.set 4 (some x)).set 5 (some x)) := fun _ => rfl
    simp only [hset, W.some?_some, W.run_bind, W.run_pure, W.pure_bind]
    array_get_dec
    cases x with
    | non => simp only [D.isi_non_bool, D.isi_non_str, D.isi_non_tuple, D.isi_non_tl, D.isi_bl_bool, D.isi_bl_str, D.isi_bl_tuple, D.isi_bl_tl, D.isi_int_bool, D.isi_int_str, D.isi_int_tuple, D.isi_int_tl, D.isi_str_bool, D.isi_str_str, D.isi_str_tuple, D.isi_str_tl, D.isi_tup_bool, D.isi_tup_str, D.isi_tup_tuple, D.isi_tup_tl, D.isi_lst_bool, D.isi_lst_str, D.isi_lst_tuple, D.isi_lst_tl, W.pure_bind, D.ne_bb, D.tr_bl, D.truth_bl, bne_self_eq_false, if_false, Bool.false_eq_true, D.ne_non, W.run_pure, W.run_bind]; exact stay rfl
    | bl b => simp only [D.isi_non_bool, D.isi_non_str, D.isi_non_tuple, D.isi_non_tl, D.isi_bl_bool, D.isi_bl_str, D.isi_bl_tuple, D.isi_bl_tl, D.isi_int_bool, D.isi_int_str, D.isi_int_tuple, D.isi_int_tl, D.isi_str_bool, D.isi_str_str, D.isi_str_tuple, D.isi_str_tl, D.isi_tup_bool, D.isi_tup_str, D.isi_tup_tuple, D.isi_tup_tl, D.isi_lst_bool, D.isi_lst_str, D.isi_lst_tuple, D.isi_lst_tl, W.pure_bind, D.ne_bb, D.tr_bl, D.truth_bl, bne_self_eq_false, if_false, Bool.false_eq_true, D.ne_bl, W.run_pure, W.run_bind]; exact stay rfl
    | int b => simp only [D.isi_non_bool, D.isi_non_str, D.isi_non_tuple, D.isi_non_tl, D.isi_bl_bool, D.isi_bl_str, D.isi_bl_tuple, D.isi_bl_tl, D.isi_int_bool, D.isi_int_str, D.isi_int_tuple, D.isi_int_tl, D.isi_str_bool, D.isi_str_str, D.isi_str_tuple, D.isi_str_tl, D.isi_tup_bool, D.isi_tup_str, D.isi_tup_tuple, D.isi_tup_tl, D.isi_lst_bool, D.isi_lst_str, D.isi_lst_tuple, D.isi_lst_tl, W.pure_bind, D.ne_bb, D.tr_bl, D.truth_bl, bne_self_eq_false, if_false, Bool.false_eq_true, D.ne_int, W.run_pure, W.run_bind, decide_true, Bool.not_true]; exact stay rfl
    | str b => simp only [D.isi_non_bool, D.isi_non_str, D.isi_non_tuple, D.isi_non_tl, D.isi_bl_bool, D.isi_bl_str, D.isi_bl_tuple, D.isi_bl_tl, D.isi_int_bool, D.isi_int_str, D.isi_int_tuple, D.isi_int_tl, D.isi_str_bool, D.isi_str_str, D.isi_str_tuple, D.isi_str_tl, D.isi_tup_bool, D.isi_tup_str, D.isi_tup_tuple, D.isi_tup_tl, D.isi_lst_bool, D.isi_lst_str, D.isi_lst_tuple, D.isi_lst_tl, W.pure_bind, D.ne_bb, D.tr_bl, D.truth_bl, bne_self_eq_false, if_false, Bool.false_eq_true, D.ne_str b hxa, W.run_pure, W.run_bind]; exact stay rfl
    | tup b =>
      have hb := D.len_nodes b
      rw [D.nodes] at h2
      simp only [D.isi_non_bool, D.isi_non_str, D.isi_non_tuple, D.isi_non_tl, D.isi_bl_bool, D.isi_bl_str, D.isi_bl_tuple, D.isi_bl_tl, D.isi_int_bool, D.isi_int_str, D.isi_int_tuple, D.isi_int_tl, D.isi_str_bool, D.isi_str_str, D.isi_str_tuple, D.isi_str_tl, D.isi_tup_bool, D.isi_tup_str, D.isi_tup_tuple, D.isi_tup_tl, D.isi_lst_bool, D.isi_lst_str, D.isi_lst_tuple, D.isi_lst_tl, W.pure_bind, D.ne_bb, D.tr_bl, D.truth_bl, bne_self_eq_false, if_false, if_true, Bool.false_eq_true, D.len_tup, D.ne_int, decide_true, Bool.not_true, (zip_dup b).1, W.run_pure, W.run_bind, D.asLst_lst, W.run_need, List.length_map]
      refine ⟨size_le (by omega), more b rfl hxa⟩
    | lst b =>
      have hb := D.len_nodes b
      rw [D.nodes] at h2
      simp only [D.isi_non_bool, D.isi_non_str, D.isi_non_tuple, D.isi_non_tl, D.isi_bl_bool, D.isi_bl_str, D.isi_bl_tuple, D.isi_bl_tl, D.isi_int_bool, D.isi_int_str, D.isi_int_tuple, D.isi_int_tl, D.isi_str_bool, D.isi_str_str, D.isi_str_tuple, D.isi_str_tl, D.isi_tup_bool, D.isi_tup_str, D.isi_tup_tuple, D.isi_tup_tl, D.isi_lst_bool, D.isi_lst_str, D.isi_lst_tuple, D.isi_lst_tl, W.pure_bind, D.ne_bb, D.tr_bl, D.truth_bl, bne_self_eq_false, if_false, if_true, Bool.false_eq_true, D.len_lst, D.ne_int, decide_true, Bool.not_true, (zip_dup b).2, W.run_pure, W.run_bind, D.asLst_lst, W.run_need, List.length_map]
      refine ⟨size_le (by omega), more b rfl hxa⟩
    | _ => cases hxa
  · rw [decide_eq_false (show ¬ (at' : Int) < (ps.length : Int) by omega), if_neg (by simp)]
    exact q
theorem take_run {ε : Eps} {n : Int} (h1 : 1 ≤ n) (h2 : n < 1000000) {Q : D → Prop} (q : ∀ k : Int, 0 ≤ k → k < n → Q (.int k)) : (F__law_take ε [.bag, .int n]).run Q := by
  show (1 ≤ n ∧ n < 1073741824) ∧ ∀ i : Int, (0 ≤ i ∧ i < n) → Q (.int i)
  exact ⟨⟨h1, by omega⟩, fun k hk => q k hk.1 hk.2⟩
theorem some_run {ε : Eps} {ds : List D} (h : ds ≠ []) (hl : ds.length < 1000000) {Q : D → Prop} (q : ∀ d ∈ ds, Q d) : (F__law_some ε [.bag, .lst ds]).run Q := by
  unfold F__law_some defW B__law_some
  array_get_dec
  have hp : 0 < ds.length := List.length_pos_iff.mpr h
  refine take_run (by omega) (by omega) fun k h0 h1 => ?_
  array_get_dec
  rw [atI_nn _ h0, List.getElem?_eq_getElem (by omega)]
  exact q _ (List.getElem_mem _)
theorem law_parted {ε : Eps} {Q : D → Prop} (q : ∀ (T : Tb) (l : List Int), T.Ok → 1 ≤ T.1 → Q (.tup [T.e, enc l])) : (F__law_parted ε [.bag, .int 5]).run Q := by
  unfold F__law_parted defW B__law_parted
  array_get_dec
  refine take_run (by decide) (by decide) fun m h0 h1 => ?_
  array_get_dec
  rw [law_lots (1 + m) (by omega) (by omega)]
  array_get_dec
  have h64 := lots_64 (xs := rngI 0 (1 + m)) (by rw [rngI_length]; omega)
  have hpos : 0 < (lots0 (rngI 0 (1 + m))).length := by rw [lots0_len]; exact Nat.pow_pos (by decide)
  refine some_run (fun e => ?_) (by rw [List.length_map, csort_length]; omega) fun d hd => ?_
  · have := congrArg List.length e
    rw [List.length_map, csort_length, List.length_nil] at this
    omega
  obtain ⟨l, hl, rfl⟩ := List.mem_map.mp hd
  rw [law_couples (1 + m) (by omega) (by omega)]
  array_get_dec
  refine for_run (e := enc) (fun done ρ => ∃ (kn : List (Int × Int)) (a b c : Option D), kn.Sublist done ∧ ρ = [some .bag, some (.int 5), some (.int (1 + m)), some (enc l), some (.lst (kn.map enc)), a, b, c]) (cpl (1 + m)) _ _ ⟨[], none, none, none, List.Sublist.refl _, rfl⟩ (fun done x rest ρ hx ⟨kn, a, b, c, hk, hρ⟩ => by
    subst hρ
    have h36 := cpl_len (1 + m) (by omega)
    have hlen : kn.length + 1 ≤ 36 := by
      have := hk.length_le
      have e := congrArg List.length hx
      rw [List.length_append, List.length_cons] at e
      omega
    rw [enc_pair]
    array_get_dec
    have keep : ∀ o : Option D, ∃ (kn' : List (Int × Int)) (a b c : Option D), kn'.Sublist (done ++ [x]) ∧ [some D.bag, some (D.int 5), some (D.int (1 + m)), some (enc l), some (D.lst (kn.map enc ++ [])), some (enc x.1), some (enc x.2), o] = [some D.bag, some (D.int 5), some (D.int (1 + m)), some (enc l), some (D.lst (kn'.map enc)), a, b, c] := fun o => ⟨kn, _, _, _, hk.trans (List.sublist_append_left _ _), by rw [List.append_nil]⟩
    have more : ∀ o : Option D, ∃ (kn' : List (Int × Int)) (a b c : Option D), kn'.Sublist (done ++ [x]) ∧ [some D.bag, some (D.int 5), some (D.int (1 + m)), some (enc l), some (D.lst (kn.map enc ++ [D.tup [enc x.1, enc x.2]])), some (enc x.1), some (enc x.2), o] = [some D.bag, some (D.int 5), some (D.int (1 + m)), some (enc l), some (D.lst (kn'.map enc)), a, b, c] := fun o => ⟨kn ++ [x], _, _, _, hk.append (List.Sublist.refl _), by rw [List.map_append]; rfl⟩
    have hs1 : (List.map (enc (α := Int × Int)) kn).length + (0 + 1) ≤ sizeLine := size_le (by rw [List.length_map]; omega)
    have hs0 : (List.map (enc (α := Int × Int)) kn).length + 0 ≤ sizeLine := size_le (by rw [List.length_map]; omega)
    rw [show D.in (enc x.1) (enc l) = W.pure (.bl (decide (x.1 ∈ l))) from D.in_tup x.1 l, show D.in (enc x.2) (enc l) = W.pure (.bl (decide (x.2 ∈ l))) from D.in_tup x.2 l]
    array_get_dec
    generalize (if decide (x.1 ∈ l) = true then (1 : Int) else 0) = u
    generalize (if decide (x.2 ∈ l) = true then (1 : Int) else 0) = v
    split
    · exact ⟨hs1, more _⟩
    · split
      · refine take_run (by decide) (by decide) fun k h0 h1 => ?_
        array_get_dec
        cases decide (k = 0) with
        | true =>
          rw [if_pos rfl]
          array_get_dec
          exact ⟨hs1, more _⟩
        | false =>
          rw [if_neg (by simp)]
          array_get_dec
          exact ⟨hs0, keep _⟩
      · exact ⟨hs0, keep _⟩) (fun ρ ⟨kn, a, b, c, hk, hρ⟩ => by
    subst hρ
    array_get_dec
    refine q (1 + m, kn) l ⟨?_, ?_, ?_, ?_⟩ ?_
    · show 0 ≤ 1 + m
      omega
    · show 1 + m ≤ 6
      omega
    · exact (cpl_nodup (1 + m)).sublist hk
    · exact fun c hc => mem_cpl.mp (hk.subset hc)
    · show 1 ≤ 1 + m
      omega)
theorem comp_sub {α : Type} {i : Nat} {p : PW.Env → W Bool} {f : PW.Env → W D} {ρ : PW.Env} (e : α → D) : ∀ (xs : List α) (acc : List D) (Q : List D → Prop), (∀ x ∈ xs, ∀ Q : Bool → Prop, (∀ b, Q b) → (p (ρ.set i (some (e x)))).run Q) → (∀ x ∈ xs, f (ρ.set i (some (e x))) = W.pure (e x)) →
    (∀ ys : List α, ys.Sublist xs → Q (acc ++ ys.map e)) → (compW (.nm i) p f (xs.map e) ρ acc).run Q
  | [], acc, Q, _, _, q => by have := q [] (List.Sublist.refl _); rwa [List.map_nil, List.append_nil] at this
  | x :: xs, acc, Q, hp, hf, q => by
    rw [List.map_cons, compW, Tgt.set_nm, W.pure_bind, W.run_bind]
    refine hp x List.mem_cons_self _ fun b => ?_
    cases b with
    | true =>
      rw [if_pos rfl, hf x List.mem_cons_self, W.pure_bind]
      refine comp_sub e xs _ Q (fun y hy => hp y (List.mem_cons_of_mem _ hy)) (fun y hy => hf y (List.mem_cons_of_mem _ hy)) fun ys hs => ?_
      have := q (x :: ys) (List.cons_sublist_cons.mpr hs)
      rwa [List.append_assoc]
    | false =>
      rw [if_neg (by simp)]
      exact comp_sub e xs _ Q (fun y hy => hp y (List.mem_cons_of_mem _ hy)) (fun y hy => hf y (List.mem_cons_of_mem _ hy)) fun ys hs => q ys (hs.cons _)
theorem lc_sub {α : Type} {i : Nat} {fi : PW.Env → W (List D)} {p : PW.Env → W Bool} {f : PW.Env → W D} {vs : List Nat} {ρ ρ' : PW.Env} (e : α → D) (xs : List α) {Q : D → Prop} (hi : fi ρ = W.pure (xs.map e)) (hw : wipeE ρ vs = ρ') (hp : ∀ x ∈ xs, ∀ Q : Bool → Prop, (∀ b, Q b) → (p (ρ'.set i (some (e x)))).run Q) (hf : ∀ x ∈ xs, f (ρ'.set i (some (e x))) = W.pure (e x))
    (q : ∀ ys : List α, ys.Sublist xs → Q (.lst (ys.map e))) : (lcW fi (.nm i) p f vs ρ).run Q := by
  unfold lcW
  rw [hi, W.pure_bind, hw, W.run_bind]
  exact comp_sub e xs [] _ hp hf fun ys hs => q ys hs
theorem law_table {ε : Eps} {Q : D → Prop} (q : ∀ T : Tb, T.Ok → 1 ≤ T.1 → Q T.e) : (F__law_table ε [.bag, .int 5]).run Q := by
  unfold F__law_table defW B__law_table
  array_get_dec
  refine law_parted fun T l hT h1 => ?_
  array_get_dec
  refine take_run (by decide) (by decide) fun k h0 h4 => ?_
  array_get_dec
  have h6 := hT.n6
  split
  · exact q T hT h1
  · have h0' := hT.n0
    have fin_ : ∀ c : Int, 1 ≤ c → c < 1000 → (lcW (fun ρ => (getV ρ 2).bind fun a => (a.ix (D.int 0)).bind fun a => (F__law_couples ε [a]).bind D.iter) (.nm 6) (fun ρ => (getV ρ 6).bind fun a => (getV ρ 2).bind fun a_1 => (a_1.ix (D.int 1)).bind fun a_2 => (a.in a_2).bind fun d => (getV ρ 0).bind fun a => (getV ρ 5).bind fun a_3 => (F__law_take eps0 [a, a_3]).bind fun a => (a.eq (D.int 0)).bind fun e => (d.ne e).bind D.tr) (fun ρ => getV ρ 6) [6]
          [some D.bag, some (D.int 5), some T.e, some (enc l), some (D.int k), some (D.int c), none]).run fun a => (D.tuple [a]).run fun a => Q (D.tup [D.int T.1, a]) := fun c hc hc2 => by
      refine lc_sub (α := Int × Int) enc (cpl T.1) (by
        array_get_dec
        rw [show T.e.ix (.int 0) = W.pure (.int T.1) from rfl]
        array_get_dec
        rw [law_couples _ h0' h6]
        array_get_dec) rfl (fun x hx R r => ?_) (fun _ _ => rfl) fun ys hs => ?_
      · unfold Tb.e
        array_get_dec
        rw [D.in_tup]
        array_get_dec
        refine take_run hc (by omega) fun j h0 h1 => ?_
        array_get_dec
        rw [D.ne_bb]
        array_get_dec
        exact r _
      · array_get_dec
        refine q (T.1, ys) ⟨by show 0 ≤ T.1; omega, h6, (cpl_nodup T.1).sublist hs, fun c hc => mem_cpl.mp (hs.subset hc)⟩ h1
    rw [show T.e.ix (.int 0) = W.pure (.int T.1) from rfl]
    array_get_dec
    split
    · exact fin_ 5 (by decide) (by decide)
    · exact fin_ 2 (by decide) (by decide)
theorem nl_row (r : List Int) : (enc r : D).nl = true := by
  rw [enc_list, D.nl]
  induction r with
  | nil => rfl
  | cons x xs ih => rw [List.map_cons, D.nlL, ih]; rfl
theorem map_eraseIdx {α β : Type} (f : α → β) : ∀ (l : List α) (i : Nat), (l.map f).eraseIdx i = (l.eraseIdx i).map f
  | [], _ => rfl
  | _ :: _, 0 => rfl
  | x :: xs, i + 1 => by rw [List.map_cons, List.eraseIdx_cons_succ, List.eraseIdx_cons_succ, List.map_cons, map_eraseIdx f xs i]
theorem perm_eraseIdx {α : Type} : ∀ {l : List α} {i : Nat} (h : i < l.length), (l[i] :: l.eraseIdx i).Perm l
  | x :: xs, 0, _ => List.Perm.refl _
  | x :: xs, i + 1, h => by
    have ih := perm_eraseIdx (l := xs) (i := i) (by simpa using h)
    rw [List.eraseIdx_cons_succ, List.getElem_cons_succ]
    exact (List.Perm.swap x _ _).trans (ih.cons x)
theorem ne_ones {α : Type} (xs : List α) : D.ne (.lst (xs.map fun _ => (enc (1 : Int) : D))) (.lst []) = W.pure (.bl (!decide (xs = []))) := by
  have h := D.ne_lst (xs.map fun _ => (1 : Int)) []
  rw [List.map_map] at h
  rw [show (xs.map fun _ => (enc (1 : Int) : D)) = xs.map (enc ∘ fun _ => (1 : Int)) from rfl, show D.lst ([] : List D) = D.lst (([] : List Int).map enc) from rfl, h]
  congr 3
  rw [decide_eq_decide, List.map_eq_nil_iff]
theorem fil_ne {α : Type} (xs : List α) (p : α → Bool) : (!decide (xs.filter p = [])) = xs.any p := by
  rw [Bool.eq_iff_iff]
  simp
theorem fil_eq {α : Type} (xs : List α) (p : α → Bool) : decide (xs.filter p = []) = !xs.any p := by
  rw [← fil_ne, Bool.not_not]
theorem rngL {ε : Type} {n : Int} (h0 : 0 ≤ n) (h6 : n ≤ 6) : D.rng1 [.int n] = W.pure ((rngI 0 n).map enc) := D.rng1_int ⟨by omega, by omega⟩
theorem ix_n (T : Tb) : T.e.ix (.int 0) = W.pure (.int T.1) := rfl
theorem rng_T (T : Tb) (hT : T.Ok) : D.rng1 [.int T.1] = W.pure (T.V.map enc) := D.rng1_int ⟨by have := hT.n0; omega, by have := hT.n6; omega⟩
theorem eq_ones {α : Type} (xs : List α) : D.eq (.lst (xs.map fun _ => (enc (1 : Int) : D))) (.lst []) = W.pure (.bl (decide (xs = []))) := D.eq_nil_map xs fun _ => (1 : Int)
theorem law_mixed {α : Type} [DecidableEq α] [Cod α] {ε : Eps} (xs : List α) (hl : xs.length ≤ 1000) (hd : dep α + 1 ≤ 64) {Q : D → Prop} (q : ∀ ys : List α, ys.Perm xs → Q (.lst (ys.map enc))) : (F__law_mixed ε [.bag, .lst (xs.map enc)]).run Q := by
  unfold F__law_mixed defW B__law_mixed
  array_get_dec
  rw [show D.list [.lst (xs.map enc)] = W.pure (.lst (xs.map enc)) from rfl]
  array_get_dec
  refine while_run (n := xs.length) (fun n ρ => ∃ (l f : List α), ρ = [some .bag, some (.lst (xs.map enc)), some (.lst (l.map enc)), some (.lst (f.map enc))] ∧ (f ++ l).Perm xs ∧ l.length ≤ n) ⟨xs, [], rfl, List.Perm.refl _, Nat.le_refl _⟩ ?_
  rintro n ρ ⟨l, f, rfl, hp, hn⟩
  array_get_dec
  rw [show D.ne (.lst (l.map enc)) (.lst []) = W.pure (.bl (!decide (l = []))) from D.ne_lst l [] hd]
  array_get_dec
  have hlen := hp.length_eq
  rw [List.length_append] at hlen
  cases l with
  | nil =>
    rw [decide_eq_true rfl]
    array_get_dec
    rw [List.append_nil] at hp
    exact q f hp
  | cons x l =>
    rw [decide_eq_false (by simp)]
    array_get_dec
    rw [List.length_map]
    rw [List.length_cons] at hlen
    refine take_run (by omega) (by omega) fun k h0 h1 => ?_
    unfold D.popAt
    array_get_dec
    rw [List.length_cons] at hn
    obtain ⟨j, rfl⟩ : ∃ j : Nat, k = j := ⟨k.toNat, by omega⟩
    have hj : j < (x :: l).length := by rw [List.length_cons]; omega
    rw [show ((j : Int)).toNat = j from by omega, show (enc x :: l.map enc) = (x :: l).map (enc (α := α)) from rfl, List.getElem?_map, List.getElem?_eq_getElem hj]
    array_get_dec
    refine ⟨⟨h0, by rw [List.length_map]; exact hj, by rw [List.length_map]; omega⟩, size_le (by rw [List.length_map]; omega), ?_⟩
    refine ⟨n - 1, by omega, (x :: l).eraseIdx j, f ++ [(x :: l)[j]], ?_, ?_, ?_⟩
    · rw [List.map_append, ← map_eraseIdx]
      rfl
    · refine List.Perm.trans ?_ hp
      rw [List.append_assoc]
      refine List.Perm.append_left _ ?_
      exact perm_eraseIdx hj
    · rw [List.length_eraseIdx_of_lt hj, List.length_cons]
      omega
end
end P98

set_option Elab.async false
set_option linter.all false
set_option maxRecDepth 100000
set_option maxHeartbeats 1000000
namespace P98
open PySem PySem.Spec PyProof.Rows L2 PW Cod
section
local macro_rules | `(tactic| array_get_dec) => `(tactic| try simp only [W.need_len, W.need_len1, W.need_len2, W.need_len3, W.need_len4, W.need_sz0, W.need_sz1, W.need_sz2, W.need_sz3, W.need_sz4, W.need_sz5, mo_eps, nox_eps, inLam_eps, forW_nil, forW_cons, Bool.true_and, Bool.not_true, Bool.not_false, wipeE, W.bind_pure, W.need_T, D.asLst_lst, seqW, W.run_bind, W.run_pure, W.run_need, W.run_fail, W.run_fa, W.run_ite, W.pure_bind, W.fail_bind, W.bind_assoc, W.ite_bind, W.some?_some, getV_zero, getV_succ, startE, List.length_cons, List.length_nil, List.map_cons, List.map_nil, List.cons_append, List.nil_append, List.replicate, List.set_cons_zero, List.set_cons_succ, D.eq_int, D.ne_int, D.add_int, D.add_lst, D.add_tup, D.sub_int, D.mul_int, D.mul_0, D.mul_1, D.mul_one, D.fdiv_int, D.mod_int, D.lt_int, D.le_int, D.gt_int, D.ge_int, D.tr_bl, D.truth_bl, D.int1_int, D.int1_bl, D.asInt_int, D.slice_lst, D.slice_tup, D.ix_lst, D.ix_tup, D.bagI_bag, D.bagC_bag, D.bagSet_bag, D.bagAdd_int, D.isBag_bag, D.len_lst, D.len_tup, D.min_int, D.max_int, D.abs_int, D.neg_int, D.tuple_lst, D.tuple_tup, D.iter_lst, D.iter_tup, D.items_lst, D.items_tup, D.rev_lst, atI_zero, atI_one, atI_two, atI_three, atI_four, atI_neg1, setAll_nil, setAll_cons, Tgt.set_nm, Tgt.set_tp, fin_rt, fin_nx, W.ite_and, W.ite_or, W.ite_andD, W.ite_orD, Bool.false_eq_true, if_true, if_false])
theorem all_couples {ε : Eps} (n : Int) (h0 : 0 ≤ n) (h6 : n ≤ 6) : F_all_couples ε [.int n] = W.pure (.lst ((cpl n).map enc)) := by
  unfold F_all_couples defW B_all_couples
  array_get_dec
  rw [lc2_nm (rngI 0 n) enc (fun a => rngI (a + 1) n) enc (fun _ _ => true) (fun a b => enc (a, b)) (by array_get_dec; rw [D.rng1_int ⟨by omega, by omega⟩]) rfl (fun x hx => by
      have := mem_rngI.mp hx
      rw [enc_int]
      array_get_dec
      rw [D.rng2_int (by omega) (by omega) (by omega) (by omega) (by omega)]) (fun a => [some (.int n), some (.int a), none]) (fun _ _ => rfl) (fun _ _ _ _ => rfl) (fun _ _ _ _ _ => rfl) (by
        have h36 := cpl_len n h6
        unfold cpl at h36
        rw [List.length_flatMap] at h36
        refine size_le ?_
        simp only [List.length_map] at h36 ⊢
        omega)]
  unfold cpl
  rw [List.map_flatMap]
  simp only [List.filter_eq_self.mpr fun _ _ => rfl, List.map_map]
  rfl
theorem law_others {ε : Eps} (T : Tb) (hT : T.Ok) (l : List Int) : F__law_others ε [T.e, enc l] = W.pure (enc (T.oth l)) := by
  have h0 := hT.n0
  have h6 := hT.n6
  unfold F__law_others defW B__law_others Tb.e
  array_get_dec
  rw [lc_nm (rngI 0 T.1) enc (fun x => !decide (x ∈ l)) enc (by array_get_dec; rw [D.rng1_int ⟨by omega, by omega⟩]) rfl (fun x _ => by
    array_get_dec
    rw [enc_list, D.notIn_tup]
    array_get_dec) (fun x _ _ => rfl)]
  array_get_dec
  rfl
theorem law_parts {ε : Eps} (T : Tb) (hT : T.Ok) (l : List Int) (hl : ∀ x ∈ l, 0 ≤ x ∧ x < T.1) : F__law_parts ε [T.e, enc l] = W.pure (.bl (T.parts l)) := by
  unfold F__law_parts defW B__law_parts
  array_get_dec
  rw [law_full T hT l hl]
  array_get_dec
  rw [law_others T hT]
  array_get_dec
  rw [law_empty T hT]
  array_get_dec
  rfl
theorem law_partings {ε : Eps} (T : Tb) (hT : T.Ok) : F__law_partings ε [T.e] = W.pure (.lst (((csort (lots0 (rngI 0 T.1))).filter T.parts).map enc)) := by
  have h0 := hT.n0
  have h6 := hT.n6
  unfold F__law_partings defW B__law_partings
  array_get_dec
  rw [lc_nm (csort (lots0 (rngI 0 T.1))) enc T.parts enc (by
      unfold Tb.e
      array_get_dec
      rw [law_lots _ h0 h6]
      array_get_dec) rfl (fun l hl => by
      array_get_dec
      rw [law_parts T hT l fun x hx => mem_rngI.mp (((mem_lots0 _ _).mp (mem_csort.mp hl)).subset hx)]
      array_get_dec) (fun x _ _ => rfl)]
theorem D.any_map {α : Type} (xs : List α) (f : α → Bool) : D.any [.lst (xs.map fun x => .bl (f x))] = W.pure (.bl (xs.any f)) := by
  have e : (xs.map fun x => D.bl (f x)) = (xs.map f).map D.bl := by rw [List.map_map]; rfl
  rw [e, D.any_bl, List.any_map]
  rfl
/-! ### frames -/
structure Fr where
  n : Int
  kn : List (Int × Int)
  ap : List (Int × Int)
def Fr.e (F : Fr) : D := .tup [.int F.n, .tup (F.kn.map enc), .tup (F.ap.map enc)]
structure Fr.Ok (F : Fr) : Prop where
  n0 : 0 ≤ F.n
  n6 : F.n ≤ 6
  kn : ∀ c ∈ F.kn, 0 ≤ c.1 ∧ c.1 < c.2 ∧ c.2 < F.n
  ap : ∀ c ∈ F.ap, 0 ≤ c.1 ∧ c.1 < c.2 ∧ c.2 < F.n
  lk : F.kn.length ≤ 100
  la : F.ap.length ≤ 100
def Fr.op (F : Fr) : List (Int × Int) := (cpl F.n).filter fun c => !decide (c ∈ F.kn) && !decide (c ∈ F.ap)
def Fr.good (F : Fr) (l : List Int) : Bool := !(F.ap.any fun c => decide (c.1 ∈ l) && decide (c.2 ∈ l)) && !(F.kn.any fun c => !decide (c.1 ∈ l) && !decide (c.2 ∈ l))
def Fr.lots (F : Fr) : List (List Int) := csort (lots0 (rngI 0 F.n))
def Fr.goods (F : Fr) : List (List Int) := F.lots.filter F.good
def Fr.fill (F : Fr) (T : Tb) : Bool := decide (T.1 = F.n) && (!(F.ap.any fun c => decide (c ∈ T.2)) && F.kn.all fun c => decide (c ∈ T.2))
theorem open_couples {ε : Eps} (F : Fr) (hF : F.Ok) : F_open_couples ε [F.e] = W.pure (enc F.op) := by
  have h0 := hF.n0
  have h6 := hF.n6
  unfold F_open_couples defW B_open_couples Fr.e
  array_get_dec
  rw [lc_nm (cpl F.n) enc (fun c => !decide (c ∈ F.kn) && !decide (c ∈ F.ap)) enc (by
      array_get_dec
      rw [all_couples _ h0 h6]
      array_get_dec) rfl (fun c _ => by
      array_get_dec
      rw [D.notIn_tup, D.notIn_tup]
      array_get_dec) (fun c _ _ => rfl)]
  array_get_dec
  rfl
theorem parts_frame {ε : Eps} (F : Fr) (l : List Int) : F_parts_frame ε [F.e, enc l] = W.pure (.bl (F.good l)) := by
  unfold F_parts_frame defW B_parts_frame Fr.e
  array_get_dec
  rw [lc_tpmap F.ap (fun c => enc c.1) (fun c => enc c.2) (fun c => .bl (decide (c.1 ∈ l) && decide (c.2 ∈ l))) (by
      array_get_dec
      rfl) rfl (fun c _ => by
      array_get_dec
      rw [enc_list, D.in_tup, D.in_tup]
      array_get_dec)]
  array_get_dec
  rw [P98.D.any_map]
  array_get_dec
  rw [lc_tpmap F.kn (fun c => enc c.1) (fun c => enc c.2) (fun c => .bl (!decide (c.1 ∈ l) && !decide (c.2 ∈ l))) (by
      array_get_dec
      rfl) rfl (fun c _ => by
      array_get_dec
      rw [enc_list, D.notIn_tup, D.notIn_tup]
      array_get_dec)]
  array_get_dec
  rw [P98.D.any_map]
  array_get_dec
  unfold Fr.good
  cases (F.ap.any fun c => decide (c.1 ∈ l) && decide (c.2 ∈ l)) <;> rfl
def Fr.isLot (F : Fr) (l : List Int) : Bool := Tb.isLot (F.n, []) l
theorem does_part {ε : Eps} (F : Fr) (l : List Int) : F_does_part ε [F.e, enc l] = W.pure (.bl (F.isLot l && F.good l)) := by
  unfold F_does_part defW B_does_part
  array_get_dec
  rw [show F.e.ix (.int 0) = W.pure (.int F.n) from rfl]
  array_get_dec
  rw [show D.tup [.int F.n, .tup []] = Tb.e (F.n, []) from rfl, is_lot, parts_frame]
  array_get_dec
  rfl
theorem fills {ε : Eps} (F : Fr) (T : Tb) : F_fills ε [F.e, T.e] = W.pure (.bl (F.fill T)) := by
  unfold F_fills defW B_fills Fr.e Tb.e
  array_get_dec
  rw [lc_map F.ap enc (fun c => .bl (decide (c ∈ T.2))) (by array_get_dec) rfl (fun c _ => by
      array_get_dec
      rw [D.in_tup])]
  array_get_dec
  rw [P98.D.any_map]
  array_get_dec
  rw [lc_map F.kn enc (fun c => .bl (decide (c ∈ T.2))) (by array_get_dec) rfl (fun c _ => by
      array_get_dec
      rw [D.in_tup])]
  array_get_dec
  rw [D.all_map]
  array_get_dec
  unfold Fr.fill
  by_cases h : T.1 = F.n
  · simp only [h, decide_true, Bool.not_true, Bool.true_and]
    cases (F.ap.any fun c => decide (c ∈ T.2)) <;> rfl
  · simp [h]
theorem all_good {ε : Eps} (F : Fr) (hF : F.Ok) : F_all_good ε [F.e] = W.pure (.lst (F.goods.map enc)) := by
  have h0 := hF.n0
  have h6 := hF.n6
  unfold F_all_good defW B_all_good
  array_get_dec
  rw [show F.e.ix (.int 0) = W.pure (.int F.n) from rfl]
  array_get_dec
  rw [D.rng1_int ⟨by omega, by omega⟩]
  array_get_dec
  refine for_bind (e := enc) (fun done ρ => ∃ o p, ρ = [some F.e, some (.lst ((lots0 done).map enc)), o, p]) (rngI 0 F.n) _ ⟨none, none, rfl⟩ (fun done x rest ρ hx ⟨o, p, hρ⟩ => by
    subst hρ
    have hl : done.length ≤ 6 := by
      have e := congrArg List.length hx
      rw [List.length_append, List.length_cons, rngI_length] at e
      omega
    have h64 := lots_64 hl
    refine ⟨[some F.e, some (.lst ((lots0 (done ++ [x])).map enc)), some (.int x), p], .inl ?_, some (.int x), p, rfl⟩
    array_get_dec
    rw [enc_int, lc_map (lots0 done) enc (fun l => enc (l ++ [x])) rfl rfl (fun l hm => by
      have hs := ((mem_lots0 done l).mp hm).length_le
      array_get_dec
      rw [enc_list]
      array_get_dec
      rw [W.need_size (by rw [List.length_append, List.length_map, List.length_cons, List.length_nil]; omega), enc_list, List.map_append]
      rfl)]
    array_get_dec
    rw [W.need_size (by rw [List.length_map, List.length_map]; omega), lots0_snoc, List.map_append, List.map_map]
    rfl) (fun ρ' ⟨o, p, e⟩ => by
      subst e
      array_get_dec
      have h64 := lots_64 (xs := rngI 0 F.n) (by rw [rngI_length]; omega)
      rw [lc_nm (lots0 (rngI 0 F.n)) enc F.good enc rfl rfl (fun l _ => by
        array_get_dec
        rw [parts_frame]
        array_get_dec) (fun l _ _ => rfl)]
      array_get_dec
      have hle := List.length_filter_le F.good (lots0 (rngI 0 F.n))
      rw [D.sorted_lst _ (size_le (by omega))]
      congr 3
      refine csort_eq ?_ ((csort_pairwise _).filter _)
      exact (csort_perm _).symm.filter _)
theorem some_lot {ε : Eps} (F : Fr) (hF : F.Ok) : F_some_lot ε [F.e] = W.pure (if F.goods = [] then .non else enc (F.goods.headD [])) := by
  unfold F_some_lot defW B_some_lot
  array_get_dec
  rw [all_good F hF]
  array_get_dec
  cases F.goods with
  | nil => rfl
  | cons l ls =>
    rw [if_neg (by simp), show D.truth (.lst (List.map enc (l :: ls))) = W.pure true from rfl, W.pure_bind, if_pos rfl, List.map_cons, atI_zero]
    rfl
end
end P98

set_option Elab.async false
set_option linter.all false
set_option maxRecDepth 100000
set_option maxHeartbeats 1000000
namespace P98
open PySem PySem.Spec PyProof.Rows L2 PW Cod
section
local macro_rules | `(tactic| array_get_dec) => `(tactic| try simp only [W.need_len, W.need_len1, W.need_len2, W.need_len3, W.need_len4, W.need_sz0, W.need_sz1, W.need_sz2, W.need_sz3, W.need_sz4, W.need_sz5, mo_eps, nox_eps, inLam_eps, forW_nil, forW_cons, Bool.true_and, Bool.not_true, Bool.not_false, wipeE, W.bind_pure, W.need_T, D.asLst_lst, seqW, W.run_bind, W.run_pure, W.run_need, W.run_fail, W.run_fa, W.run_ite, W.pure_bind, W.fail_bind, W.bind_assoc, W.ite_bind, W.some?_some, getV_zero, getV_succ, startE, List.length_cons, List.length_nil, List.map_cons, List.map_nil, List.cons_append, List.nil_append, List.replicate, List.set_cons_zero, List.set_cons_succ, D.eq_int, D.ne_int, D.add_int, D.add_lst, D.add_tup, D.sub_int, D.mul_int, D.mul_0, D.mul_1, D.mul_one, D.fdiv_int, D.mod_int, D.lt_int, D.le_int, D.gt_int, D.ge_int, D.tr_bl, D.truth_bl, D.int1_int, D.int1_bl, D.asInt_int, D.slice_lst, D.slice_tup, D.ix_lst, D.ix_tup, D.bagI_bag, D.bagC_bag, D.bagSet_bag, D.bagAdd_int, D.isBag_bag, D.len_lst, D.len_tup, D.min_int, D.max_int, D.abs_int, D.neg_int, D.tuple_lst, D.tuple_tup, D.iter_lst, D.iter_tup, D.items_lst, D.items_tup, D.rev_lst, atI_zero, atI_one, atI_two, atI_three, atI_four, atI_neg1, setAll_nil, setAll_cons, Tgt.set_nm, Tgt.set_tp, fin_rt, fin_nx, W.ite_and, W.ite_or, W.ite_andD, W.ite_orD, Bool.false_eq_true, if_true, if_false])
/-! ### two ways for each -/
abbrev Lit := Int × Bool
def neg (p : Lit) : Lit := (p.1, !p.2)
theorem neg_neg (p : Lit) : neg (neg p) = p := by unfold neg; simp
inductive Rch (R : Lit → Lit → Prop) : Lit → Lit → Prop
  | refl (p : Lit) : Rch R p p
  | tail {p q r : Lit} : Rch R p q → R q r → Rch R p r
theorem Rch.trans {R : Lit → Lit → Prop} {p q r : Lit} (h : Rch R p q) (k : Rch R q r) : Rch R p r := by
  induction k with
  | refl => exact h
  | tail _ h2 ih => exact .tail ih h2
theorem Rch.skew {R : Lit → Lit → Prop} (hs : ∀ p q, R p q → R (neg q) (neg p)) {p q : Lit} (h : Rch R p q) : Rch R (neg q) (neg p) := by
  induction h with
  | refl => exact .refl _
  | tail _ h2 ih => exact (Rch.tail (.refl _) (hs _ _ h2)).trans ih
theorem Rch.close {R : Lit → Lit → Prop} {S : Lit → Prop} (hc : ∀ p q, S p → R p q → S q) {p q : Lit} (h : Rch R p q) (k : S p) : S q := by
  induction h with
  | refl => exact k
  | tail _ h2 ih => exact hc _ _ ih h2
theorem two_sat {R : Lit → Lit → Prop} (hs : ∀ p q, R p q → R (neg q) (neg p)) : ∀ V : List Int, (∀ x ∈ V, ¬(Rch R (x, true) (x, false) ∧ Rch R (x, false) (x, true))) →
    ∃ S : Lit → Prop, (∀ p q, S p → R p q → S q) ∧ (∀ p, S p → ¬S (neg p)) ∧ ∀ x ∈ V, S (x, true) ∨ S (x, false)
  | [], _ => ⟨fun _ => False, fun _ _ h _ => h, fun _ h _ => h, fun _ h => by cases h⟩
  | x :: V, hb => by
    classical
    obtain ⟨S, h1, h2, h3⟩ := two_sat hs V fun y hy => hb y (List.mem_cons_of_mem _ hy)
    by_cases hx : S (x, true) ∨ S (x, false)
    · refine ⟨S, h1, h2, fun y hy => ?_⟩
      rcases List.mem_cons.mp hy with rfl | hy
      · exact hx
      · exact h3 y hy
    · obtain ⟨p, hp, hn⟩ : ∃ p : Lit, p.1 = x ∧ ¬Rch R p (neg p) := by
        by_cases h : Rch R (x, true) (x, false)
        · exact ⟨(x, false), rfl, fun k => hb x List.mem_cons_self ⟨h, k⟩⟩
        · exact ⟨(x, true), rfl, h⟩
      have hpS : ¬S (neg p) := fun h => hx (by
        obtain ⟨a, b⟩ := p
        simp only at hp
        subst hp
        cases b with
        | true => exact .inr h
        | false => exact .inl h)
      refine ⟨fun q => S q ∨ Rch R p q, fun q r h k => ?_, fun q h k => ?_, fun y hy => ?_⟩
      · rcases h with h | h
        · exact .inl (h1 _ _ h k)
        · exact .inr (.tail h k)
      · rcases h with h | h
        · rcases k with k | k
          · exact h2 _ h k
          · have k' := k.skew hs
            rw [neg_neg] at k'
            exact hpS (k'.close h1 h)
        · rcases k with k | k
          · exact hpS ((h.skew hs).close h1 k)
          · have k' := k.skew hs
            rw [neg_neg] at k'
            exact hn (h.trans k')
      · rcases List.mem_cons.mp hy with rfl | hy
        · obtain ⟨a, b⟩ := p
          simp only at hp
          subst hp
          cases b with
          | true => exact .inl (.inr (.refl _))
          | false => exact .inr (.inr (.refl _))
        · rcases h3 y hy with h | h
          · exact .inl (.inl h)
          · exact .inr (.inl h)
def told (cs : List (Int × Int)) (a b : Int) : Bool := decide ((min a b, max a b) ∈ cs)
theorem told_symm (cs : List (Int × Int)) (a b : Int) : told cs a b = told cs b a := by unfold told; rw [Int.min_comm, Int.max_comm]
theorem is_told {ε : Eps} (cs : List (Int × Int)) (a b : Int) : F_is_told ε [enc cs, .int a, .int b] = W.pure (.bl (told cs a b)) := by
  unfold F_is_told defW B_is_told
  array_get_dec
  rw [minI, maxI, show D.tup [.int (min a b), .int (max a b)] = enc (min a b, max a b) from rfl, enc_list, D.in_tup]
  rfl
def Fr.wh (F : Fr) (b : Bool) : List (Int × Int) := if b = true then F.ap else F.kn
/-- whoever is on a side drives others to the other one -/
def Fr.stp (F : Fr) (p q : Lit) : Prop := q.2 = !p.2 ∧ told (F.wh p.2) p.1 q.1 = true
theorem stp_skew (F : Fr) (p q : Lit) (h : F.stp p q) : F.stp (neg q) (neg p) := by
  obtain ⟨h1, h2⟩ := h
  obtain ⟨a, b⟩ := p
  obtain ⟨c, d⟩ := q
  simp only at h1 h2
  subst h1
  refine ⟨by simp [neg], ?_⟩
  show told (F.wh (!(!b))) c a = true
  rw [Bool.not_not, told_symm]
  exact h2
theorem told_ok {F : Fr} (hF : F.Ok) {b : Bool} {x y : Int} (h : told (F.wh b) x y = true) : (0 ≤ x ∧ x < F.n) ∧ (0 ≤ y ∧ y < F.n) ∧ x ≠ y := by
  unfold told at h
  have h := of_decide_eq_true h
  have : 0 ≤ min x y ∧ min x y < max x y ∧ max x y < F.n := by
    unfold Fr.wh at h
    split at h
    · exact hF.ap _ h
    · exact hF.kn _ h
  omega
theorem mem_lots {F : Fr} {l : List Int} : l ∈ F.lots ↔ l.Sublist (rngI 0 F.n) := by unfold Fr.lots; rw [mem_csort, mem_lots0]
theorem mem_goods {F : Fr} {l : List Int} : l ∈ F.goods ↔ l ∈ F.lots ∧ F.good l = true := by unfold Fr.goods; rw [List.mem_filter]
theorem good_iff {F : Fr} {l : List Int} : F.good l = true ↔ (∀ c ∈ F.ap, ¬(c.1 ∈ l ∧ c.2 ∈ l)) ∧ ∀ c ∈ F.kn, c.1 ∈ l ∨ c.2 ∈ l := by
  unfold Fr.good
  rw [Bool.and_eq_true, Bool.not_eq_true', Bool.not_eq_true', List.any_eq_false, List.any_eq_false]
  constructor
  · rintro ⟨h1, h2⟩
    refine ⟨fun c hc k => h1 c hc (by simp [k.1, k.2]), fun c hc => ?_⟩
    have := h2 c hc
    by_cases h : c.1 ∈ l
    · exact .inl h
    · refine .inr ?_
      simpa [h] using this
  · rintro ⟨h1, h2⟩
    refine ⟨fun c hc k => h1 c hc (by simpa using k), fun c hc k => ?_⟩
    simp only [Bool.and_eq_true, Bool.not_eq_true', decide_eq_false_iff_not] at k
    rcases h2 c hc with h | h
    · exact k.1 h
    · exact k.2 h
theorem good_told {F : Fr} {l : List Int} (hg : F.good l = true) {p q : Lit} (hp : decide (p.1 ∈ l) = p.2) (h : F.stp p q) : decide (q.1 ∈ l) = q.2 := by
  obtain ⟨g1, g2⟩ := good_iff.mp hg
  obtain ⟨a, b⟩ := p
  obtain ⟨c, d⟩ := q
  obtain ⟨h1, h2⟩ := h
  simp only at h1 h2 hp ⊢
  subst h1
  unfold told Fr.wh at h2
  have h2 := of_decide_eq_true h2
  have cases_ : (min a c = a ∧ max a c = c) ∨ (min a c = c ∧ max a c = a) := by omega
  cases b with
  | true =>
    rw [if_pos rfl] at h2
    have ha := of_decide_eq_true hp
    have := g1 _ h2
    rw [Bool.not_true, decide_eq_false_iff_not]
    intro hc
    rcases cases_ with ⟨e1, e2⟩ | ⟨e1, e2⟩
    · rw [e1, e2] at this; exact this ⟨ha, hc⟩
    · rw [e1, e2] at this; exact this ⟨hc, ha⟩
  | false =>
    rw [if_neg (by simp)] at h2
    have ha := of_decide_eq_false hp
    have := g2 _ h2
    rw [Bool.not_false, decide_eq_true_eq]
    rcases cases_ with ⟨e1, e2⟩ | ⟨e1, e2⟩
    · rw [e1, e2] at this; exact this.resolve_left ha
    · rw [e1, e2] at this; exact this.resolve_right ha
/-- a lot parts a frame exactly if there is no swing -/
theorem goods_ne {F : Fr} (hF : F.Ok) : F.goods ≠ [] ↔ ∀ x ∈ rngI 0 F.n, ¬(Rch F.stp (x, true) (x, false) ∧ Rch F.stp (x, false) (x, true)) := by
  classical
  constructor
  · intro hne x hx ⟨h1, h2⟩
    obtain ⟨l, hl⟩ := List.exists_mem_of_ne_nil _ hne
    obtain ⟨_, hg⟩ := mem_goods.mp hl
    have key : ∀ {p q : Lit}, Rch F.stp p q → decide (p.1 ∈ l) = p.2 → decide (q.1 ∈ l) = q.2 := fun {p q} h k => Rch.close (S := fun p => decide (p.1 ∈ l) = p.2) (fun p q hp h => good_told hg hp h) h k
    by_cases h : x ∈ l
    · have := key h1 (decide_eq_true h)
      exact (of_decide_eq_false this) h
    · have := key h2 (decide_eq_false h)
      exact h (of_decide_eq_true this)
  · intro h
    obtain ⟨S, h1, h2, h3⟩ := two_sat (stp_skew F) (rngI 0 F.n) h
    refine List.ne_nil_of_mem (a := (rngI 0 F.n).filter fun x => decide (S (x, true))) (mem_goods.mpr ⟨mem_lots.mpr List.filter_sublist, good_iff.mpr ⟨fun c hc k => ?_, fun c hc => ?_⟩⟩)
    · have ha := (List.mem_filter.mp k.1).2
      have hb := (List.mem_filter.mp k.2).2
      have ok := hF.ap c hc
      have := h1 (c.1, true) (c.2, false) (of_decide_eq_true ha) ⟨rfl, by
        show told F.ap c.1 c.2 = true
        unfold told
        rw [Int.min_eq_left (by omega), Int.max_eq_right (by omega)]
        exact decide_eq_true hc⟩
      exact h2 _ this (of_decide_eq_true hb)
    · have ok := hF.kn c hc
      by_cases k : c.1 ∈ (rngI 0 F.n).filter fun x => decide (S (x, true))
      · exact .inl k
      · refine .inr (List.mem_filter.mpr ⟨mem_rngI.mpr ⟨by omega, by omega⟩, ?_⟩)
        have hn : ¬S (c.1, true) := fun q => k (List.mem_filter.mpr ⟨mem_rngI.mpr ⟨by omega, by omega⟩, decide_eq_true q⟩)
        have hf := (h3 c.1 (mem_rngI.mpr ⟨by omega, by omega⟩)).resolve_left hn
        exact decide_eq_true (h1 (c.1, false) (c.2, true) hf ⟨rfl, by
          show told F.kn c.1 c.2 = true
          unfold told
          rw [Int.min_eq_left (by omega), Int.max_eq_right (by omega)]
          exact decide_eq_true hc⟩)
end
end P98

set_option Elab.async false
set_option linter.all false
set_option maxRecDepth 100000
set_option maxHeartbeats 1000000
namespace P98
open PySem PySem.Spec PyProof.Rows L2 PW Cod
section
local macro_rules | `(tactic| array_get_dec) => `(tactic| try simp only [W.need_len, W.need_len1, W.need_len2, W.need_len3, W.need_len4, W.need_sz0, W.need_sz1, W.need_sz2, W.need_sz3, W.need_sz4, W.need_sz5, mo_eps, nox_eps, inLam_eps, forW_nil, forW_cons, Bool.true_and, Bool.not_true, Bool.not_false, wipeE, W.bind_pure, W.need_T, D.asLst_lst, seqW, W.run_bind, W.run_pure, W.run_need, W.run_fail, W.run_fa, W.run_ite, W.pure_bind, W.fail_bind, W.bind_assoc, W.ite_bind, W.some?_some, getV_zero, getV_succ, startE, List.length_cons, List.length_nil, List.map_cons, List.map_nil, List.cons_append, List.nil_append, List.replicate, List.set_cons_zero, List.set_cons_succ, D.eq_int, D.ne_int, D.add_int, D.add_lst, D.add_tup, D.sub_int, D.mul_int, D.mul_0, D.mul_1, D.mul_one, D.fdiv_int, D.mod_int, D.lt_int, D.le_int, D.gt_int, D.ge_int, D.tr_bl, D.truth_bl, D.int1_int, D.int1_bl, D.asInt_int, D.slice_lst, D.slice_tup, D.ix_lst, D.ix_tup, D.bagI_bag, D.bagC_bag, D.bagSet_bag, D.bagAdd_int, D.isBag_bag, D.len_lst, D.len_tup, D.min_int, D.max_int, D.abs_int, D.neg_int, D.tuple_lst, D.tuple_tup, D.iter_lst, D.iter_tup, D.items_lst, D.items_tup, D.rev_lst, atI_zero, atI_one, atI_two, atI_three, atI_four, atI_neg1, setAll_nil, setAll_cons, Tgt.set_nm, Tgt.set_tp, fin_rt, fin_nx, W.ite_and, W.ite_or, W.ite_andD, W.ite_orD, Bool.false_eq_true, if_true, if_false])
/-! ### dicts from (person, turn) to rows -/
abbrev Ky := Int × Int
abbrev Lv := List (Ky × List Int)
def kk (k : Ky) : List Key := [.inl k.1, .inl k.2]
theorem kk_inj {a b : Ky} (h : kk a = kk b) : a = b := by
  unfold kk at h
  obtain ⟨a1, a2⟩ := a
  obtain ⟨b1, b2⟩ := b
  simp only [List.cons.injEq, Sum.inl.injEq, and_true] at h
  rw [h.1, h.2]
def Lv.m (L : Lv) : List (List Key × D) := L.map fun e => (kk e.1, enc e.2)
def Lv.d (L : Lv) : D := .dT (Lv.m L)
def Lv.keys (L : Lv) : List Ky := L.map (·.1)
def Lv.get (L : Lv) (k : Ky) : Option (List Int) := (L.find? fun e => decide (e.1 = k)).map (·.2)
def Lv.put (L : Lv) (k : Ky) (r : List Int) : Lv := if k ∈ Lv.keys L then L.map (fun e => if e.1 = k then (e.1, r) else e) else L ++ [(k, r)]
theorem getK_m (k : Ky) : ∀ L : Lv, getK (Lv.m L) (kk k) = (Lv.get L k).map enc
  | [] => rfl
  | e :: L => by
    have ih := getK_m k L
    unfold getK Lv.m Lv.get at ih ⊢
    rw [List.map_cons, List.find?_cons, List.find?_cons]
    by_cases h : e.1 = k
    · rw [show decide ((kk e.1, (enc e.2 : D)).1 = kk k) = true from decide_eq_true (by rw [h]), show decide (e.1 = k) = true from decide_eq_true h]
      rfl
    · rw [show decide ((kk e.1, (enc e.2 : D)).1 = kk k) = false from decide_eq_false (fun q => h (kk_inj q)), show decide (e.1 = k) = false from decide_eq_false h]
      exact ih
theorem get_some {k : Ky} {r : List Int} {L : Lv} (h : Lv.get L k = some r) : (k, r) ∈ L := by
  unfold Lv.get at h
  obtain ⟨e, h1, h2⟩ := Option.map_eq_some_iff.mp h
  have h3 := List.find?_some h1
  have h4 := List.mem_of_find?_eq_some h1
  have : e.1 = k := of_decide_eq_true h3
  obtain ⟨e1, e2⟩ := e
  simp only at this h2
  rw [← this, ← h2]
  exact h4
theorem get_isSome (k : Ky) (L : Lv) : (Lv.get L k).isSome = decide (k ∈ Lv.keys L) := by
  unfold Lv.get Lv.keys
  rw [Option.isSome_map, Bool.eq_iff_iff, List.find?_isSome, decide_eq_true_eq, List.mem_map]
  constructor
  · rintro ⟨e, h1, h2⟩; exact ⟨e, h1, of_decide_eq_true h2⟩
  · rintro ⟨e, h1, h2⟩; exact ⟨e, h1, decide_eq_true h2⟩
theorem any_m (k : Ky) (L : Lv) : ((Lv.m L).any fun kv => decide (kv.1 = kk k)) = decide (k ∈ Lv.keys L) := by
  unfold Lv.m Lv.keys
  rw [List.any_map, Bool.eq_iff_iff, List.any_eq_true, decide_eq_true_eq, List.mem_map]
  constructor
  · rintro ⟨e, h1, h2⟩; exact ⟨e, h1, kk_inj (of_decide_eq_true h2)⟩
  · rintro ⟨e, h1, h2⟩; exact ⟨e, h1, decide_eq_true (by rw [← h2])⟩
theorem putD_m (L : Lv) (k : Ky) (r : List Int) : putD (Lv.m L) (kk k) (enc r) = Lv.m (Lv.put L k r) := by
  unfold putD
  rw [any_m]
  unfold Lv.put
  by_cases h : k ∈ Lv.keys L
  · rw [if_pos (decide_eq_true h), if_pos h]
    unfold Lv.m
    rw [List.map_map, List.map_map]
    refine List.map_congr_left fun e _ => ?_
    show (if kk e.1 = kk k then (kk e.1, (enc r : D)) else (kk e.1, enc e.2)) = (fun e : Ky × List Int => (kk e.1, (enc e.2 : D))) (if e.1 = k then (e.1, r) else e)
    by_cases q : e.1 = k
    · rw [if_pos (by rw [q]), if_pos q]
    · rw [if_neg (fun z => q (kk_inj z)), if_neg q]
  · rw [if_neg (by simpa using h), if_neg h]
    unfold Lv.m
    rw [List.map_append]
    rfl
theorem put_len (L : Lv) (k : Ky) (r : List Int) : (Lv.put L k r).length ≤ L.length + 1 := by
  unfold Lv.put
  split
  · rw [List.length_map]; omega
  · rw [List.length_append]; exact Nat.le_refl _
theorem put_keys (L : Lv) (k : Ky) (r : List Int) : Lv.keys (Lv.put L k r) = if k ∈ Lv.keys L then Lv.keys L else Lv.keys L ++ [k] := by
  unfold Lv.put
  split
  · unfold Lv.keys
    rw [List.map_map]
    refine List.map_congr_left fun e _ => ?_
    show (if e.1 = k then (e.1, r) else e).1 = e.1
    split <;> rfl
  · unfold Lv.keys
    rw [List.map_append]
    rfl
theorem mem_put {L : Lv} {k : Ky} {r : List Int} {e : Ky × List Int} (h : e ∈ Lv.put L k r) : e ∈ L ∨ e = (k, r) := by
  unfold Lv.put at h
  split at h
  · obtain ⟨x, h1, rfl⟩ := List.mem_map.mp h
    split
    · rename_i q
      exact .inr (by rw [q])
    · exact .inl h1
  · rcases List.mem_append.mp h with h | h
    · exact .inl h
    · exact .inr (List.mem_singleton.mp h)
theorem updD_m : ∀ (L S : Lv), (∀ k ∈ Lv.keys L, k ∉ Lv.keys S) → (Lv.keys L).Nodup → updD (Lv.m S) (Lv.m L) = Lv.m (S ++ L)
  | [], S, _, _ => by rw [List.append_nil]; rfl
  | e :: L, S, h, hn => by
    have hn' := List.nodup_cons.mp hn
    have e1 : putD (Lv.m S) (kk e.1) (enc e.2) = Lv.m (S ++ [e]) := by
      rw [putD_m]
      unfold Lv.put
      rw [if_neg (h e.1 List.mem_cons_self)]
    show updD (putD (Lv.m S) (kk e.1) (enc e.2)) (Lv.m L) = _
    rw [e1, updD_m L (S ++ [e]) (fun k hk => ?_) hn'.2, List.append_assoc]
    · rfl
    · intro q
      unfold Lv.keys at q
      rw [List.map_append] at q
      rcases List.mem_append.mp q with q | q
      · exact h k (List.mem_cons_of_mem _ hk) q
      · exact hn'.1 (by rw [← List.mem_singleton.mp q]; exact hk)
theorem find_d (L : Lv) (a b : Int) : D.find (Lv.d L) (.tup [.int a, .int b]) = W.pure ((Lv.get L (a, b)).map enc) := by
  show (W.some? (asKeys [.int a, .int b])).bind (fun k => W.pure (getK (Lv.m L) k)) = _
  rw [show asKeys [.int a, .int b] = some (kk (a, b)) from rfl, W.some?_some, W.pure_bind, getK_m]
theorem in_d (L : Lv) (a b : Int) : D.in (.tup [.int a, .int b]) (Lv.d L) = W.pure (.bl (decide ((a, b) ∈ Lv.keys L))) := by
  show ((D.find (Lv.d L) (.tup [.int a, .int b])).bind fun r => W.pure r.isSome).bind _ = _
  rw [find_d, W.pure_bind, Option.isSome_map, get_isSome]
  rfl
theorem ni_d (L : Lv) (a b : Int) : D.notIn (.tup [.int a, .int b]) (Lv.d L) = W.pure (.bl (!decide ((a, b) ∈ Lv.keys L))) := by
  show ((D.find (Lv.d L) (.tup [.int a, .int b])).bind fun r => W.pure r.isSome).bind _ = _
  rw [find_d, W.pure_bind, Option.isSome_map, get_isSome]
  rfl
theorem ix_d {L : Lv} {a b : Int} {r : List Int} (h : Lv.get L (a, b) = some r) : D.ix (Lv.d L) (.tup [.int a, .int b]) = W.pure (enc r) := by
  show (D.find (Lv.d L) (.tup [.int a, .int b])).bind W.some? = _
  rw [find_d, h]
  rfl
theorem put_d (L : Lv) (a b : Int) (r : List Int) (h : L.length ≤ 100000) : D.put (Lv.d L) (.tup [.int a, .int b]) (enc r) = W.pure (Lv.d (Lv.put L (a, b) r)) := by
  show (W.some? (asKeys [.int a, .int b])).bind (fun k => (W.need ((Lv.m L).length < sizeLine)).bind fun _ => W.pure (D.dT (putD (Lv.m L) k (enc r)))) = _
  rw [show asKeys [.int a, .int b] = some (kk (a, b)) from rfl, W.some?_some, W.pure_bind, W.need_bind (by unfold Lv.m; rw [List.length_map]; exact Nat.lt_of_le_of_lt h (by unfold sizeLine; decide)), putD_m]
  rfl
theorem upd_d (S L : Lv) (h : ∀ k ∈ Lv.keys L, k ∉ Lv.keys S) (hn : (Lv.keys L).Nodup) (hl : S.length + L.length ≤ 100000) (ho : S ≠ [] ∨ L.length ≤ 1) : D.update (Lv.d S) (Lv.d L) = W.pure (Lv.d (S ++ L)) := by
  show (W.need ((Lv.m S).length + (Lv.m L).length ≤ sizeLine ∧ (Lv.m S ≠ [] ∨ (Lv.m L).length ≤ 1))).bind (fun _ => W.pure (D.dT (updD (Lv.m S) (Lv.m L)))) = _
  rw [W.need_bind ⟨by unfold Lv.m; rw [List.length_map, List.length_map]; exact size_le (by omega), by
    rcases ho with ho | ho
    · refine .inl fun e => ho ?_
      unfold Lv.m at e
      exact List.map_eq_nil_iff.mp e
    · exact .inr (by unfold Lv.m; rw [List.length_map]; exact ho)⟩, updD_m L S h hn]
  rfl
theorem truth_d (L : Lv) : D.truth (Lv.d L) = W.pure (!decide (L = [])) := by cases L <;> rfl
theorem items_d (L : Lv) : D.itemsL (Lv.d L) = W.pure (L.map enc) := by
  show W.pure (itemsT (Lv.m L)) = _
  unfold itemsT Lv.m
  rw [List.map_map]
  rfl
theorem sort_d (L : Lv) (h : L.length ≤ 100000) : ((D.itemsL (Lv.d L)).bind fun ds => (W.need (SortOk ds ∧ ds.length ≤ sizeLine)).bind fun _ => W.pure (D.lst (sortL ds))) = W.pure (.lst ((csort L).map enc)) := by
  rw [items_d, W.pure_bind, W.need_bind ⟨sortOk_enc L, by rw [List.length_map]; exact size_le (by omega)⟩, sortL_enc]
theorem min_rows (r s : List Int) : D.min [enc r, enc s] = W.pure (enc (minC r [s])) := by
  show (W.need (MinOk ([r, s].map enc))).bind (fun _ => W.pure (D.minL (enc r) ([s].map enc))) = _
  rw [W.need_bind (minOk_enc [r, s]), minL_enc]
theorem set_ent (e : Ky × List Int) (ρ : PW.Env) : Tgt.set (.tt [.inr [7, 8], .inl 9]) (enc e) ρ = W.pure (((ρ.set 7 (some (.int e.1.1))).set 8 (some (.int e.1.2))).set 9 (some (enc e.2))) := rfl
end
end P98

set_option Elab.async false
set_option linter.all false
set_option maxRecDepth 100000
set_option maxHeartbeats 1000000
namespace P98
open PySem PySem.Spec PyProof.Rows L2 PW Cod
section
local macro_rules | `(tactic| array_get_dec) => `(tactic| try simp only [W.need_len, W.need_len1, W.need_len2, W.need_len3, W.need_len4, W.need_sz0, W.need_sz1, W.need_sz2, W.need_sz3, W.need_sz4, W.need_sz5, mo_eps, nox_eps, inLam_eps, forW_nil, forW_cons, Bool.true_and, Bool.not_true, Bool.not_false, wipeE, W.bind_pure, W.need_T, D.asLst_lst, seqW, W.run_bind, W.run_pure, W.run_need, W.run_fail, W.run_fa, W.run_ite, W.pure_bind, W.fail_bind, W.bind_assoc, W.ite_bind, W.some?_some, getV_zero, getV_succ, startE, List.length_cons, List.length_nil, List.map_cons, List.map_nil, List.cons_append, List.nil_append, List.replicate, List.set_cons_zero, List.set_cons_succ, D.eq_int, D.ne_int, D.add_int, D.add_lst, D.add_tup, D.sub_int, D.mul_int, D.mul_0, D.mul_1, D.mul_one, D.fdiv_int, D.mod_int, D.lt_int, D.le_int, D.gt_int, D.ge_int, D.tr_bl, D.truth_bl, D.int1_int, D.int1_bl, D.asInt_int, D.slice_lst, D.slice_tup, D.ix_lst, D.ix_tup, D.bagI_bag, D.bagC_bag, D.bagSet_bag, D.bagAdd_int, D.isBag_bag, D.len_lst, D.len_tup, D.min_int, D.max_int, D.abs_int, D.neg_int, D.tuple_lst, D.tuple_tup, D.iter_lst, D.iter_tup, D.items_lst, D.items_tup, D.rev_lst, atI_zero, atI_one, atI_two, atI_three, atI_four, atI_neg1, setAll_nil, setAll_cons, Tgt.set_nm, Tgt.set_tp, fin_rt, fin_nx, W.ite_and, W.ite_or, W.ite_andD, W.ite_orD, Bool.false_eq_true, if_true, if_false])
/-! ### row_from -/
def Fr.kd (F : Fr) (first : Bool) (t : Int) : List (Int × Int) := F.wh (decide (t = 0) == first)
inductive Wk (F : Fr) (first : Bool) (one : Int) : Ky → List Int → Prop
  | nil : Wk F first one (one, 0) [one]
  | step {x t y : Int} {r : List Int} : Wk F first one (x, t) r → told (F.kd first t) x y = true → Wk F first one (y, 1 - t) (r ++ [y])
def Okk (F : Fr) (k : Ky) : Prop := (0 ≤ k.1 ∧ k.1 < F.n) ∧ (k.2 = 0 ∨ k.2 = 1)
theorem nodup_sub : ∀ {l m : List Ky}, l.Nodup → (∀ x ∈ l, x ∈ m) → l.length ≤ m.length
  | [], _, _, _ => Nat.zero_le _
  | x :: l, m, hn, hs => by
    have hx := hs x List.mem_cons_self
    have hn' := List.nodup_cons.mp hn
    have := nodup_sub (m := m.erase x) hn'.2 fun y hy => by
      refine (List.mem_erase_of_ne (fun e => hn'.1 (by rw [← e]; exact hy))).mpr (hs y (List.mem_cons_of_mem _ hy))
    rw [List.length_erase_of_mem hx] at this
    have hp : 0 < m.length := List.length_pos_of_mem hx
    rw [List.length_cons]
    omega
theorem few_keys {F : Fr} (hF : F.Ok) {ks : List Ky} (hn : ks.Nodup) (hr : ∀ k ∈ ks, Okk F k) : ks.length ≤ 12 := by
  have h := nodup_sub (m := (rngI 0 F.n).map (fun x => (x, 0)) ++ (rngI 0 F.n).map (fun x => (x, 1))) hn fun k hk => by
    obtain ⟨h1, h2⟩ := hr k hk
    obtain ⟨a, b⟩ := k
    rw [List.mem_append, List.mem_map, List.mem_map]
    rcases h2 with h2 | h2
    · exact .inl ⟨a, mem_rngI.mpr h1, by simp only at h2; rw [h2]⟩
    · exact .inr ⟨a, mem_rngI.mpr h1, by simp only at h2; rw [h2]⟩
  rw [List.length_append, List.length_map, List.length_map, rngI_length] at h
  have := hF.n6
  omega
structure BI (F : Fr) (f : Bool) (one : Int) (L S : Lv) : Prop where
  wk : ∀ e ∈ L, Wk F f one e.1 e.2
  nd : (Lv.keys S ++ Lv.keys L).Nodup
  rg : ∀ k ∈ Lv.keys S ++ Lv.keys L, Okk F k
  ok1 : (one, 1) ∉ Lv.keys S
  beg : (one, 0) ∈ Lv.keys S ++ Lv.keys L
  cl : ∀ k ∈ Lv.keys S, ∀ y, told (F.kd f k.2) k.1 y = true → (y, 1 - k.2) ∈ Lv.keys S ++ Lv.keys L
  ln : ∀ e ∈ L, e.2.length ≤ S.length + 1
  un : S = [] → L.length ≤ 1
theorem BI.len {F : Fr} (hF : F.Ok) {f : Bool} {one : Int} {L S : Lv} (b : BI F f one L S) : S.length + L.length ≤ 12 := by
  have := few_keys hF b.nd b.rg
  rw [List.length_append] at this
  unfold Lv.keys at this
  rw [List.length_map, List.length_map] at this
  exact this
def lit (f : Bool) (k : Ky) : Lit := (k.1, decide (k.2 = 0) == f)
theorem lit_turn {f : Bool} {y t : Int} (h : t = 0 ∨ t = 1) : (lit f (y, 1 - t)).2 = !(decide (t = 0) == f) := by
  unfold lit
  rcases h with rfl | rfl <;> cases f <;> rfl
theorem BI.none {F : Fr} (hF : F.Ok) {f : Bool} {one : Int} {S : Lv} (b : BI F f one [] S) : ¬Rch F.stp (lit f (one, 0)) (lit f (one, 1)) := by
  intro h
  have nil_ : Lv.keys ([] : Lv) = [] := rfl
  have key : ∀ {p : Lit}, Rch F.stp (lit f (one, 0)) p → ∃ k ∈ Lv.keys S, lit f k = p := fun {p} h => by
    induction h with
    | refl => exact ⟨(one, 0), by have := b.beg; rwa [nil_, List.append_nil] at this, rfl⟩
    | @tail q r h1 h2 ih =>
      obtain ⟨k, hk, e⟩ := ih
      subst e
      obtain ⟨h2, h3⟩ := h2
      have ht := (b.rg k (List.mem_append_left _ hk)).2
      refine ⟨(r.1, 1 - k.2), ?_, ?_⟩
      · have := b.cl k hk r.1 h3
        rwa [nil_, List.append_nil] at this
      · obtain ⟨r1, r2⟩ := r
        simp only at h2 ⊢
        subst h2
        exact Prod.ext rfl (lit_turn ht)
  obtain ⟨k, hk, e⟩ := key h
  obtain ⟨a, t⟩ := k
  have ht := (b.rg _ (List.mem_append_left _ hk)).2
  have e1 : a = one := congrArg Prod.fst e
  have e2 : (decide (t = 0) == f) = (decide ((1 : Int) = 0) == f) := congrArg Prod.snd e
  have e3 : t = 1 := by
    rcases ht with h | h
    · simp only at h; subst h; cases f <;> simp at e2
    · exact h
  exact b.ok1 (by rw [← e1, ← e3]; exact hk)
structure LI (F : Fr) (f : Bool) (one : Int) (L S : Lv) (done : Lv) (Lt : Lv) : Prop where
  wk : ∀ e ∈ Lt, Wk F f one e.1 e.2
  ln : ∀ e ∈ Lt, e.2.length ≤ S.length + 2
  nd : (Lv.keys Lt).Nodup
  ds : ∀ k ∈ Lv.keys Lt, k ∉ Lv.keys (S ++ L)
  rg : ∀ k ∈ Lv.keys Lt, Okk F k
  cl : ∀ e ∈ done, ∀ y, told (F.kd f e.1.2) e.1.1 y = true → (y, 1 - e.1.2) ∈ Lv.keys (S ++ L) ∨ (y, 1 - e.1.2) ∈ Lv.keys Lt
theorem LI.len {F : Fr} (hF : F.Ok) {f : Bool} {one : Int} {L S done Lt : Lv} (b : LI F f one L S done Lt) : Lt.length ≤ 12 := by
  have := few_keys hF b.nd b.rg
  unfold Lv.keys at this
  rw [List.length_map] at this
  exact this
theorem LI.put {F : Fr} {f : Bool} {one : Int} {L S done Lt : Lv} (b : LI F f one L S done Lt) {k : Ky} {r : List Int} (hk : k ∉ Lv.keys (S ++ L)) (ho : Okk F k) (hw : Wk F f one k r) (hl : r.length ≤ S.length + 2) : LI F f one L S done (Lv.put Lt k r) := by
  have sub : ∀ q ∈ Lv.keys Lt, q ∈ Lv.keys (Lv.put Lt k r) := fun q hq => by
    rw [put_keys]
    split
    · exact hq
    · exact List.mem_append_left _ hq
  refine ⟨fun e he => ?_, fun e he => ?_, ?_, fun q hq => ?_, fun q hq => ?_, fun e he y hy => (b.cl e he y hy).imp id (sub _)⟩
  · rcases mem_put he with he | rfl
    · exact b.wk e he
    · exact hw
  · rcases mem_put he with he | rfl
    · exact b.ln e he
    · exact hl
  · rw [put_keys]
    split
    · exact b.nd
    · rename_i h
      exact List.nodup_append.mpr ⟨b.nd, by simp, fun x hx y hy e => h (by rw [← List.mem_singleton.mp hy, ← e]; exact hx)⟩
  all_goals
    rw [put_keys] at hq
    split at hq
    · first | exact b.ds q hq | exact b.rg q hq
    · rcases List.mem_append.mp hq with hq | hq
      · first | exact b.ds q hq | exact b.rg q hq
      · rw [List.mem_singleton.mp hq]; first | exact hk | exact ho
theorem keys_app (S L : Lv) : Lv.keys (S ++ L) = Lv.keys S ++ Lv.keys L := List.map_append
theorem LI.next {F : Fr} (hF : F.Ok) {f : Bool} {one : Int} {L S Lt : Lv} (b : BI F f one L S) (hL : L ≠ []) (h1 : (one, 1) ∉ Lv.keys L) (c : LI F f one L S (csort L) Lt) : BI F f one Lt (S ++ L) := by
  refine ⟨c.wk, ?_, fun k hk => ?_, fun h => ?_, ?_, fun k hk y hy => ?_, fun e he => ?_, fun h => ?_⟩
  · rw [keys_app]
    refine List.nodup_append.mpr ⟨b.nd, c.nd, fun x hx y hy e => ?_⟩
    have := c.ds y hy
    rw [keys_app, ← e] at this
    exact this hx
  · rcases List.mem_append.mp hk with hk | hk
    · rw [keys_app] at hk; exact b.rg k hk
    · exact c.rg k hk
  · rw [keys_app] at h
    rcases List.mem_append.mp h with h | h
    · exact b.ok1 h
    · exact h1 h
  · rw [keys_app]
    exact List.mem_append_left _ b.beg
  · rw [keys_app] at hk
    rcases List.mem_append.mp hk with hk | hk
    · rw [keys_app]
      exact List.mem_append_left _ (b.cl k hk y hy)
    · obtain ⟨e, he, rfl⟩ := List.mem_map.mp hk
      rcases c.cl e (mem_csort.mpr he) y hy with h | h
      · exact List.mem_append_left _ h
      · exact List.mem_append_right _ h
  · have := c.ln e he
    have hp := List.length_pos_iff.mpr hL
    rw [List.length_append]
    omega
  · exact absurd (List.append_eq_nil_iff.mp h).2 hL
theorem Wk.len {F : Fr} {f : Bool} {one : Int} {k : Ky} {r : List Int} (h : Wk F f one k r) : 1 ≤ r.length := by
  cases h with
  | nil => exact Nat.le_refl _
  | step => rw [List.length_append]; exact Nat.le_add_left _ _
end
end P98

set_option Elab.async false
set_option linter.all false
set_option maxRecDepth 100000
set_option maxHeartbeats 1000000
namespace P98
open PySem PySem.Spec PyProof.Rows L2 PW Cod
section
local macro_rules | `(tactic| array_get_dec) => `(tactic| try simp only [W.need_len, W.need_len1, W.need_len2, W.need_len3, W.need_len4, W.need_sz0, W.need_sz1, W.need_sz2, W.need_sz3, W.need_sz4, W.need_sz5, mo_eps, nox_eps, inLam_eps, forW_nil, forW_cons, Bool.true_and, Bool.not_true, Bool.not_false, wipeE, W.bind_pure, W.need_T, D.asLst_lst, seqW, W.run_bind, W.run_pure, W.run_need, W.run_fail, W.run_fa, W.run_ite, W.pure_bind, W.fail_bind, W.bind_assoc, W.ite_bind, W.some?_some, getV_zero, getV_succ, startE, List.length_cons, List.length_nil, List.map_cons, List.map_nil, List.cons_append, List.nil_append, List.replicate, List.set_cons_zero, List.set_cons_succ, D.eq_int, D.ne_int, D.add_int, D.add_lst, D.add_tup, D.sub_int, D.mul_int, D.mul_0, D.mul_1, D.mul_one, D.fdiv_int, D.mod_int, D.lt_int, D.le_int, D.gt_int, D.ge_int, D.tr_bl, D.truth_bl, D.int1_int, D.int1_bl, D.asInt_int, D.slice_lst, D.slice_tup, D.ix_lst, D.ix_tup, D.bagI_bag, D.bagC_bag, D.bagSet_bag, D.bagAdd_int, D.isBag_bag, D.len_lst, D.len_tup, D.min_int, D.max_int, D.abs_int, D.neg_int, D.tuple_lst, D.tuple_tup, D.iter_lst, D.iter_tup, D.items_lst, D.items_tup, D.rev_lst, atI_zero, atI_one, atI_two, atI_three, atI_four, atI_neg1, setAll_nil, setAll_cons, Tgt.set_nm, Tgt.set_tp, fin_rt, fin_nx, W.ite_and, W.ite_or, W.ite_andD, W.ite_orD, Bool.false_eq_true, if_true, if_false])
theorem LI.start {F : Fr} {f : Bool} {one : Int} {L S : Lv} : LI F f one L S [] [] := by
  have nil_ : Lv.keys ([] : Lv) = [] := rfl
  refine ⟨fun e he => absurd he List.not_mem_nil, fun e he => absurd he List.not_mem_nil, by rw [nil_]; exact List.nodup_nil, fun k hk => ?_, fun k hk => ?_, fun e he => absurd he List.not_mem_nil⟩
  · rw [nil_] at hk; exact absurd hk List.not_mem_nil
  · rw [nil_] at hk; exact absurd hk List.not_mem_nil
theorem row_from {ε : Eps} (F : Fr) (hF : F.Ok) (one : Int) (h0 : 0 ≤ one) (h1 : one < F.n) (f : Bool) {Q : D → Prop} (q0 : ¬Rch F.stp (lit f (one, 0)) (lit f (one, 1)) → Q .non) (q1 : ∀ r : List Int, Wk F f one (one, 1) r → r.length ≤ 100 → Q (enc r)) : (F_row_from ε [F.e, .int one, .bl f]).run Q := by
  have n0 := hF.n0
  have n6 := hF.n6
  obtain ⟨f', hf⟩ : ∃ f', f' = f := ⟨f, rfl⟩
  rw [← hf] at q0 q1
  have k0 : F.kd f' 0 = F.wh f' := by unfold Fr.kd; cases f' <;> rfl
  have k1 : F.kd f' 1 = F.wh (!f') := by unfold Fr.kd; cases f' <;> rfl
  have hk : ∀ t : Int, t = 0 ∨ t = 1 → (W.some? (atI [(enc (F.kd f' 0) : D), enc (F.kd f' 1)] t)) = W.pure (enc (F.kd f' t)) := fun t ht => by
    rcases ht with rfl | rfl <;> rfl
  have ea : F.e.ix (.int 2) = W.pure (enc F.ap) := rfl
  have en : F.e.ix (.int 1) = W.pure (enc F.kn) := rfl
  have em : F.e.ix (.int 0) = W.pure (.int F.n) := rfl
  unfold F_row_from defW B_row_from
  array_get_dec
  rw [ea, en]
  array_get_dec
  rw [show PW.tupKey (D.tup [D.int one, D.int 0]) = some (kk (one, 0)) from rfl]
  array_get_dec
  have start : BI F f' one [((one, 0), [one])] [] := by
    refine ⟨fun e he => ?_, by simp [Lv.keys], fun k hk => ?_, by simp [Lv.keys], by simp [Lv.keys], fun k hk => by simp [Lv.keys] at hk, fun e he => ?_, fun _ => Nat.le_refl _⟩
    · rw [List.mem_singleton.mp he]; exact .nil
    · have : k = (one, 0) := by simpa [Lv.keys] using hk
      rw [this]
      exact ⟨⟨h0, h1⟩, .inl rfl⟩
    · rw [List.mem_singleton.mp he]; exact Nat.le_refl _
  have ek : ∀ b : Bool, f = b → (if b = true then D.tup [enc F.ap, enc F.kn] else D.tup [enc F.kn, enc F.ap]) = D.tup [enc (F.kd f' 0), enc (F.kd f' 1)] := fun b hb => by
    rw [k0, k1, hf, hb]
    cases b <;> rfl
  cases f
  all_goals
    have ek := ek _ rfl
    simp only [Bool.false_eq_true, if_false, if_true] at ek ⊢
    rw [ek]
    refine while_run (fun n ρ => ∃ (L S : Lv) (o6 o7 o8 o9 o10 : Option D) (fb : Bool), ρ = [some F.e, some (.int one), some (.bl fb), some (D.tup [enc (F.kd f' 0), enc (F.kd f' 1)]), some (Lv.d L), some (Lv.d S), o6, o7, o8, o9, o10] ∧ BI F f' one L S ∧ n = 20 - S.length) (n := 20) ⟨[((one, 0), [one])], [], none, none, none, none, none, _, rfl, start, rfl⟩ ?_
    rintro n ρ ⟨L, S, o6, o7, o8, o9, o10, fb, rfl, b, rfl⟩
    array_get_dec
    rw [truth_d]
    array_get_dec
    cases L with
    | nil =>
      simp only [decide_true, Bool.not_true, Bool.false_eq_true, if_false]
      array_get_dec
      exact q0 (b.none hF)
    | cons e0 L0 =>
      generalize hLL : e0 :: L0 = L at b ⊢
      have hL : L ≠ [] := by rw [← hLL]; simp
      clear hLL
      rw [if_pos (by simp [hL])]
      have hlen := b.len hF
      array_get_dec
      rw [in_d]
      array_get_dec
      split
      · rename_i hin
        have hin := of_decide_eq_true hin
        have : (Lv.get L (one, 1)).isSome = true := by rw [get_isSome]; exact decide_eq_true hin
        obtain ⟨r, hr⟩ := Option.isSome_iff_exists.mp this
        rw [ix_d hr]
        array_get_dec
        exact q1 r (b.wk _ (get_some hr)) (by have := b.ln _ (get_some hr); simp only at this; omega)
      · rename_i hin
        have hin : (one, 1) ∉ Lv.keys L := fun h => hin (decide_eq_true h)
        rw [show D.isD (Lv.d S) = W.pure () from rfl]
        array_get_dec
        have hnd := List.nodup_append.mp b.nd
        rw [upd_d S L (fun k hk hk' => hnd.2.2 k hk' k hk rfl) hnd.2.1 (by omega) (by
          by_cases h : S = []
          · exact .inr (b.un h)
          · exact .inl h)]
        array_get_dec
        rw [items_d, W.run_pure]
        refine ⟨⟨sortOk_enc L, by rw [List.length_map]; exact size_le (by omega)⟩, ?_⟩
        rw [sortL_enc]
        refine for_run (e := enc) (fun done ρ => ∃ (Lt : Lv) (o7 o8 o9 o10 : Option D), ρ = [some F.e, some (.int one), some (.bl fb), some (D.tup [enc (F.kd f' 0), enc (F.kd f' 1)]), some (Lv.d L), some (Lv.d (S ++ L)), some (Lv.d Lt), o7, o8, o9, o10] ∧ LI F f' one L S done Lt) (csort L) _ _
          ⟨[], o7, o8, o9, o10, rfl, LI.start⟩ ?_ ?_
        · rintro done e rest ρ hx ⟨Lt, p7, p8, p9, p10, rfl, c⟩
          have heL : e ∈ L := mem_csort.mp (by rw [← hx]; simp)
          obtain ⟨⟨h, t⟩, r⟩ := e
          have hw := b.wk _ heL
          have hln := b.ln _ heL
          have hr := b.rg (h, t) (List.mem_append_right _ (List.mem_map.mpr ⟨_, heL, rfl⟩))
          simp only at hw hln
          have ht : t = 0 ∨ t = 1 := hr.2
          rw [set_ent]
          array_get_dec
          rw [lc_nm (rngI 0 F.n) enc (fun y => told (F.kd f' t) h y) enc (by
            array_get_dec
            rw [em]
            array_get_dec
            rw [D.rng1_int ⟨by omega, by omega⟩]) rfl (fun y _ => by
            array_get_dec
            rw [hk t ht]
            array_get_dec
            rw [enc_int, is_told]
            array_get_dec) (fun y _ _ => rfl)]
          array_get_dec
          refine for_run (e := enc) (fun done2 ρ => ∃ (Lt : Lv) (p10 : Option D), ρ = [some F.e, some (.int one), some (.bl fb), some (D.tup [enc (F.kd f' 0), enc (F.kd f' 1)]), some (Lv.d L), some (Lv.d (S ++ L)), some (Lv.d Lt), some (.int h), some (.int t), some (enc r), p10] ∧ LI F f' one L S done Lt ∧ ∀ y ∈ done2, (y, 1 - t) ∈ Lv.keys (S ++ L) ∨ (y, 1 - t) ∈ Lv.keys Lt) ((rngI 0 F.n).filter fun y => told (F.kd f' t) h y) _ _
            ⟨Lt, p10, rfl, c, fun _ h => by cases h⟩ ?_ ?_
          · rintro done2 y rest2 ρ hx2 ⟨Lt, p10, rfl, c, hd⟩
            have hy : y ∈ (rngI 0 F.n).filter fun y => told (F.kd f' t) h y := by rw [← hx2]; simp
            obtain ⟨hy1, hy2⟩ := List.mem_filter.mp hy
            have hy1 := mem_rngI.mp hy1
            have more : ∀ Lt' : Lv, (∀ q ∈ Lv.keys Lt, q ∈ Lv.keys Lt') → ((y, 1 - t) ∈ Lv.keys (S ++ L) ∨ (y, 1 - t) ∈ Lv.keys Lt') → ∀ z ∈ done2 ++ [y], (z, 1 - t) ∈ Lv.keys (S ++ L) ∨ (z, 1 - t) ∈ Lv.keys Lt' := fun Lt' hs h z hz => by
              rcases List.mem_append.mp hz with hz | hz
              · exact (hd z hz).imp id (hs _)
              · rw [List.mem_singleton.mp hz]; exact h
            array_get_dec
            rw [enc_int, ni_d]
            array_get_dec
            split
            · rename_i hni
              have hni : (y, 1 - t) ∉ Lv.keys (S ++ L) := by simpa using hni
              have hz := c.len hF
              rw [show D.items (enc r) = W.pure (r.map enc) from rfl]
              array_get_dec
              have hsz : (List.map enc r ++ [D.int y]).length ≤ sizeLine := by
                rw [List.length_append, List.length_map, List.length_cons, List.length_nil]
                exact size_le (by omega)
              refine ⟨hsz, ?_⟩
              rw [show D.isD (Lv.d Lt) = W.pure () from rfl]
              array_get_dec
              refine ⟨hsz, ?_⟩
              rw [find_d]
              array_get_dec
              have ex : D.tup (List.map enc r ++ [D.int y]) = enc (r ++ [y]) := by rw [enc_list, List.map_append]; rfl
              rw [ex]
              have hv : ∃ v : List Int, ((Lv.get Lt (y, 1 - t)).map enc).getD (enc (r ++ [y]) : D) = enc v ∧ Wk F f' one (y, 1 - t) v ∧ v.length ≤ S.length + 2 := by
                have hw2 : Wk F f' one (y, 1 - t) (r ++ [y]) := .step hw hy2
                have hl2 : (r ++ [y]).length ≤ S.length + 2 := by rw [List.length_append]; simp only [List.length_cons, List.length_nil]; omega
                cases hg : Lv.get Lt (y, 1 - t) with
                | none => exact ⟨r ++ [y], rfl, hw2, hl2⟩
                | some v => exact ⟨v, rfl, c.wk _ (get_some hg), c.ln _ (get_some hg)⟩
              obtain ⟨v, ev, hv1, hv2⟩ := hv
              rw [ev, min_rows]
              array_get_dec
              have hm : Wk F f' one (y, 1 - t) (minC (r ++ [y]) [v]) ∧ (minC (r ++ [y]) [v]).length ≤ S.length + 2 := by
                have hm := minC_mem (r ++ [y]) [v]
                rcases List.mem_cons.mp hm with e | e
                · rw [e]; exact ⟨.step hw hy2, by rw [List.length_append]; simp only [List.length_cons, List.length_nil]; omega⟩
                · rw [List.mem_singleton.mp e]; exact ⟨hv1, hv2⟩
              rw [put_d _ _ _ _ (by omega)]
              array_get_dec
              refine ⟨_, _, rfl, c.put hni ⟨hy1, by omega⟩ hm.1 hm.2, more _ (fun q hq => ?_) (.inr ?_)⟩
              · rw [put_keys]; split
                · exact hq
                · exact List.mem_append_left _ hq
              · rw [put_keys]; split
                · assumption
                · exact List.mem_append_right _ (by simp)
            · rename_i hni
              have hni : (y, 1 - t) ∈ Lv.keys (S ++ L) := by simpa using hni
              exact ⟨Lt, _, rfl, c, more Lt (fun _ h => h) (.inl hni)⟩
          · rintro ρ ⟨Lt, p10, rfl, c, hd⟩
            refine ⟨Lt, _, _, _, _, rfl, ⟨c.wk, c.ln, c.nd, c.ds, c.rg, fun e he y hy => ?_⟩⟩
            rcases List.mem_append.mp he with he | he
            · exact c.cl e he y hy
            · have e1 := List.mem_singleton.mp he
              subst e1
              exact hd y (List.mem_filter.mpr ⟨mem_rngI.mpr (told_ok hF hy).2.1, hy⟩)
        · rintro ρ ⟨Lt, p7, p8, p9, p10, rfl, c⟩
          array_get_dec
          have c2 := c.next hF b hL hin
          have hlen2 := c2.len hF
          have hp := List.length_pos_iff.mpr hL
          rw [List.length_append] at hlen2
          exact ⟨_, by rw [List.length_append]; omega, Lt, S ++ L, _, _, _, _, _, _, rfl, c2, rfl⟩
end
end P98

set_option Elab.async false
set_option linter.all false
set_option maxRecDepth 100000
set_option maxHeartbeats 1000000
namespace P98
open PySem PySem.Spec PyProof.Rows L2 PW Cod
section
local macro_rules | `(tactic| array_get_dec) => `(tactic| try simp only [W.need_len, W.need_len1, W.need_len2, W.need_len3, W.need_len4, W.need_sz0, W.need_sz1, W.need_sz2, W.need_sz3, W.need_sz4, W.need_sz5, mo_eps, nox_eps, inLam_eps, forW_nil, forW_cons, Bool.true_and, Bool.not_true, Bool.not_false, wipeE, W.bind_pure, W.need_T, D.asLst_lst, seqW, W.run_bind, W.run_pure, W.run_need, W.run_fail, W.run_fa, W.run_ite, W.pure_bind, W.fail_bind, W.bind_assoc, W.ite_bind, W.some?_some, getV_zero, getV_succ, startE, List.length_cons, List.length_nil, List.map_cons, List.map_nil, List.cons_append, List.nil_append, List.replicate, List.set_cons_zero, List.set_cons_succ, D.eq_int, D.ne_int, D.add_int, D.add_lst, D.add_tup, D.sub_int, D.mul_int, D.mul_0, D.mul_1, D.mul_one, D.fdiv_int, D.mod_int, D.lt_int, D.le_int, D.gt_int, D.ge_int, D.tr_bl, D.truth_bl, D.int1_int, D.int1_bl, D.asInt_int, D.slice_lst, D.slice_tup, D.ix_lst, D.ix_tup, D.bagI_bag, D.bagC_bag, D.bagSet_bag, D.bagAdd_int, D.isBag_bag, D.len_lst, D.len_tup, D.min_int, D.max_int, D.abs_int, D.neg_int, D.tuple_lst, D.tuple_tup, D.iter_lst, D.iter_tup, D.items_lst, D.items_tup, D.rev_lst, atI_zero, atI_one, atI_two, atI_three, atI_four, atI_neg1, setAll_nil, setAll_cons, Tgt.set_nm, Tgt.set_tp, fin_rt, fin_nx, W.ite_and, W.ite_or, W.ite_andD, W.ite_orD, Bool.false_eq_true, if_true, if_false])
theorem Wk.turn {F : Fr} {f : Bool} {one : Int} {k : Ky} {r : List Int} (h : Wk F f one k r) : k.2 = 0 ∨ k.2 = 1 := by
  induction h with
  | nil => exact .inl rfl
  | step _ _ ih => simp only at ih ⊢; omega
theorem Wk.rch {F : Fr} {f : Bool} {one : Int} {k : Ky} {r : List Int} (h : Wk F f one k r) : Rch F.stp (lit f (one, 0)) (lit f k) := by
  induction h with
  | nil => exact .refl _
  | @step x t y r h1 h2 ih =>
    refine .tail ih ⟨lit_turn h1.turn, h2⟩
theorem goods_nil {F : Fr} (hF : F.Ok) {one : Int} (h0 : 0 ≤ one) (h1 : one < F.n) (a : Rch F.stp (lit true (one, 0)) (lit true (one, 1))) (b : Rch F.stp (lit false (one, 0)) (lit false (one, 1))) : F.goods = [] := by
  by_cases h : F.goods = []
  · exact h
  · exact absurd ⟨a, b⟩ ((goods_ne hF).mp h one (mem_rngI.mpr ⟨h0, h1⟩))
theorem a_swing {ε : Eps} (F : Fr) (hF : F.Ok) {Q : D → Prop} (q0 : F.goods ≠ [] → Q .non) (q1 : ∀ (one : Int) (r s : List Int), 0 ≤ one → one < F.n → F.goods = [] → Wk F true one (one, 1) r → Wk F false one (one, 1) s → r.length ≤ 100 → s.length ≤ 100 → Q (.tup [enc r, enc s])) : (F_a_swing ε [F.e]).run Q := by
  have n0 := hF.n0
  have n6 := hF.n6
  unfold F_a_swing defW B_a_swing
  array_get_dec
  rw [show F.e.ix (.int 0) = W.pure (.int F.n) from rfl]
  array_get_dec
  rw [D.rng1_int ⟨by omega, by omega⟩]
  array_get_dec
  refine for_run (e := enc) (fun done ρ => ∃ a b c, ρ = [some F.e, a, b, c] ∧ ∀ x ∈ done, ¬(Rch F.stp (x, true) (x, false) ∧ Rch F.stp (x, false) (x, true))) (rngI 0 F.n) _ _ ⟨none, none, none, rfl, fun _ h => absurd h List.not_mem_nil⟩ ?_ ?_
  · rintro done x rest ρ hx ⟨a, b, c, rfl, hd⟩
    have hxr := mem_rngI.mp (show x ∈ rngI 0 F.n by rw [← hx]; simp)
    have more : ¬(Rch F.stp (x, true) (x, false) ∧ Rch F.stp (x, false) (x, true)) → ∀ y ∈ done ++ [x], ¬(Rch F.stp (y, true) (y, false) ∧ Rch F.stp (y, false) (y, true)) := fun h y hy => by
      rcases List.mem_append.mp hy with hy | hy
      · exact hd y hy
      · rw [List.mem_singleton.mp hy]; exact h
    array_get_dec
    rw [enc_int]
    have nn : D.isnot .non .non = W.pure (.bl false) := rfl
    have nr : ∀ r : List Int, D.isnot (enc r) .non = W.pure (.bl true) := fun _ => rfl
    refine row_from F hF x hxr.1 hxr.2 true (fun hn => ?_) fun r hr lr => ?_
    · refine row_from F hF x hxr.1 hxr.2 false (fun hm => ?_) fun s hs ls => ?_
      all_goals
        array_get_dec
        rw [nn]
        array_get_dec
        exact ⟨_, _, _, rfl, more fun h => hn h.1⟩
    · refine row_from F hF x hxr.1 hxr.2 false (fun hm => ?_) fun s hs ls => ?_
      · array_get_dec
        rw [nr, nn]
        array_get_dec
        exact ⟨_, _, _, rfl, more fun h => hm h.2⟩
      · array_get_dec
        rw [nr, nr]
        array_get_dec
        exact q1 x r s hxr.1 hxr.2 (goods_nil hF hxr.1 hxr.2 hr.rch hs.rch) hr hs lr ls
  · rintro ρ ⟨a, b, c, rfl, hd⟩
    array_get_dec
    exact q0 ((goods_ne hF).mpr hd)
/-! ### is_row, is_swing -/
theorem Wk.row {F : Fr} (hF : F.Ok) {f : Bool} {one : Int} (h0 : 0 ≤ one) (h1 : one < F.n) {k : Ky} {r : List Int} (h : Wk F f one k r) :
    (∀ x ∈ r, 0 ≤ x ∧ x < F.n) ∧ r.head? = some one ∧ r.getLast? = some k.1 ∧ k.2 = ((r.length - 1 : Nat) : Int) % 2 ∧ ∀ (i : Nat) (a b : Int), r[i]? = some a → r[i + 1]? = some b → told (F.kd f ((i : Int) % 2)) a b = true := by
  induction h with
  | nil => exact ⟨fun x hx => by rw [List.mem_singleton.mp hx]; exact ⟨h0, h1⟩, rfl, rfl, rfl, fun i a b _ h => by simp at h⟩
  | @step x t y r hw ht ih =>
    obtain ⟨g1, g2, g3, g4, g5⟩ := ih
    have hl := hw.len
    simp only at g3 g4
    refine ⟨fun z hz => ?_, ?_, ?_, ?_, fun i a b ha hb => ?_⟩
    · rcases List.mem_append.mp hz with hz | hz
      · exact g1 z hz
      · rw [List.mem_singleton.mp hz]; exact (told_ok hF ht).2.1
    · rw [List.head?_append, g2]; rfl
    · rw [List.getLast?_append]; rfl
    · show 1 - t = _
      rw [g4, List.length_append, List.length_cons, List.length_nil]
      omega
    · have hi : i + 1 < r.length + 1 := by
        have := (List.getElem?_eq_some_iff.mp hb).1
        rw [List.length_append] at this
        exact this
      rw [List.getElem?_append_left (by omega)] at ha
      by_cases h2 : i + 1 < r.length
      · rw [List.getElem?_append_left h2] at hb
        exact g5 i a b ha hb
      · have e : i + 1 = r.length := by omega
        rw [List.getElem?_append_right (by omega), e, Nat.sub_self] at hb
        have hb : y = b := by simpa using hb
        subst hb
        rw [List.getLast?_eq_getElem?, show r.length - 1 = i by omega, ha] at g3
        cases g3
        have : ((i : Int) % 2) = t := by rw [g4]; congr 1; omega
        rw [this]
        exact ht
theorem is_row {ε : Eps} (F : Fr) (hF : F.Ok) {one : Int} (h0 : 0 ≤ one) (h1 : one < F.n) {f : Bool} {r : List Int} (h : Wk F f one (one, 1) r) : F_is_row ε [F.e, enc r, .bl f] = W.pure (.bl true) := by
  obtain ⟨g1, g2, g3, g4, g5⟩ := h.row hF h0 h1
  have hl := h.len
  simp only at g3 g4
  have hl2 : 2 ≤ r.length := by omega
  have k0 : F.kd f 0 = F.wh f := by unfold Fr.kd; cases f <;> rfl
  have k1 : F.kd f 1 = F.wh (!f) := by unfold Fr.kd; cases f <;> rfl
  have hk : ∀ t : Int, t = 0 ∨ t = 1 → (W.some? (atI [(enc (F.kd f 0) : D), enc (F.kd f 1)] t)) = W.pure (enc (F.kd f t)) := fun t ht => by
    rcases ht with rfl | rfl <;> rfl
  unfold F_is_row defW B_is_row
  array_get_dec
  rw [enc_list]
  array_get_dec
  have hne : r ≠ [] := fun e => by rw [e] at hl; simp at hl
  obtain ⟨x0, xs, rfl⟩ : ∃ x0 xs, r = x0 :: xs := by
    cases r with
    | nil => exact absurd rfl hne
    | cons x xs => exact ⟨x, xs, rfl⟩
  have e0 : x0 = one := by simpa using g2
  have elast : (List.map (enc (α := Int)) (x0 :: xs)).getLast? = some (.int one) := by rw [List.getLast?_map, g3]; rfl
  rw [W.need_bind (by decide), List.length_map, if_neg (by simp; simp only [List.length_cons] at hl2; omega), if_neg (by simp; simp only [List.length_cons] at g4 ⊢; omega), elast, show atI (List.map (enc (α := Int)) (x0 :: xs)) 0 = some (.int x0) from by rw [List.map_cons, atI_zero]; rfl, e0]
  array_get_dec
  simp only [decide_true, Bool.not_true, Bool.false_eq_true, if_false]
  rw [show F.e.ix (.int 2) = W.pure (enc F.ap) from rfl, show F.e.ix (.int 1) = W.pure (enc F.kn) from rfl]
  array_get_dec
  have main : ∀ fb : Bool, (lcW (fun ρ => (getV ρ 1).bind fun a => (getV ρ 1).bind fun a_3 => (a_3.slice (some 1) none).bind fun a_4 => D.enumZ [a, a_4]) (Tgt.tt [Sum.inl 4, Sum.inr [5, 6]]) (fun x => W.pure true)
      (fun ρ => (getV ρ 3).bind fun a => (getV ρ 4).bind fun a_3 => (a_3.mod (D.int 2)).bind fun a_4 => (a.ix a_4).bind fun a => (getV ρ 5).bind fun a_5 => (getV ρ 6).bind fun a_6 => F_is_told eps0 [a, a_5, a_6])
      [4, 5, 6] [some F.e, some (D.tup (List.map enc (one :: xs))), some (D.bl fb), some (D.tup [enc (F.kd f 0), enc (F.kd f 1)]), none, none, none]).bind (fun a => D.all [a]) = W.pure (D.bl true) := fun fb => by
    rw [lcW_eq]
    array_get_dec
    have ec : cutL ((enc one : D) :: List.map enc xs) (some 1) none = List.map enc xs := by
      rw [show (1 : Int) = ((1 : Nat) : Int) from rfl, cutL_drop]
      rfl
    have ez : D.enumZ [D.tup ((enc one : D) :: List.map enc xs), D.tup (List.map enc xs)] = W.pure ((enumI ((one :: xs).zip xs)).map enc) := by
      show W.pure (enumD (zipD ((one :: xs).map enc) (xs.map enc))) = _
      have e1 : zipD ((one :: xs).map (enc (α := Int))) (xs.map enc) = ((one :: xs).zip xs).map enc := by
        unfold zipD
        rw [List.zipWith_map, List.zip, List.map_zipWith]
        rfl
      rw [e1, enumD_enc]
    rw [ec, ez, W.pure_bind, compW_all (st := fun x : Int × (Int × Int) => [some F.e, some (D.tup ((enc one : D) :: List.map enc xs)), some (D.bl fb), some (D.tup [enc (F.kd f 0), enc (F.kd f 1)]), some (.int x.1), some (.int x.2.1), some (.int x.2.2)]) (fun x => rfl),
      cmpT_congr (P' := fun _ => W.pure true) (G' := fun _ => W.pure (.bl true)) rfl (fun _ _ => rfl) (fun x hx => by
        obtain ⟨i, hi⟩ := List.mem_iff_getElem?.mp hx
        have hlt := (List.getElem?_eq_some_iff.mp hi).1
        rw [enumI_length] at hlt
        rw [enumI_get _ _ hlt] at hi
        cases hi
        array_get_dec
        rw [W.need_bind (by decide)]
        have hm : ((i : Int) % 2) = 0 ∨ ((i : Int) % 2) = 1 := by omega
        rw [hk _ hm]
        array_get_dec
        rw [is_told]
        congr 2
        have hl' := hlt
        rw [List.length_zip, List.length_cons] at hl'
        refine g5 i _ _ ?_ ?_
        · rw [e0, List.getElem_zip, List.getElem?_eq_getElem (by rw [List.length_cons]; omega)]
        · rw [List.getElem_zip, List.getElem?_cons_succ, List.getElem?_eq_getElem (by omega)]), cmpT_true, W.pure_bind, D.all_map]
    congr 2
    exact List.all_eq_true.mpr fun _ _ => rfl
  have m := main f
  cases f with
  | true =>
    rw [if_pos rfl]
    exact m
  | false =>
    rw [if_neg (by simp)]
    exact m
end
end P98

set_option Elab.async false
set_option linter.all false
set_option maxRecDepth 100000
set_option maxHeartbeats 1000000
namespace P98
open PySem PySem.Spec PyProof.Rows L2 PW Cod
section
local macro_rules | `(tactic| array_get_dec) => `(tactic| try simp only [W.need_len, W.need_len1, W.need_len2, W.need_len3, W.need_len4, W.need_sz0, W.need_sz1, W.need_sz2, W.need_sz3, W.need_sz4, W.need_sz5, mo_eps, nox_eps, inLam_eps, forW_nil, forW_cons, Bool.true_and, Bool.not_true, Bool.not_false, wipeE, W.bind_pure, W.need_T, D.asLst_lst, seqW, W.run_bind, W.run_pure, W.run_need, W.run_fail, W.run_fa, W.run_ite, W.pure_bind, W.fail_bind, W.bind_assoc, W.ite_bind, W.some?_some, getV_zero, getV_succ, startE, List.length_cons, List.length_nil, List.map_cons, List.map_nil, List.cons_append, List.nil_append, List.replicate, List.set_cons_zero, List.set_cons_succ, D.eq_int, D.ne_int, D.add_int, D.add_lst, D.add_tup, D.sub_int, D.mul_int, D.mul_0, D.mul_1, D.mul_one, D.fdiv_int, D.mod_int, D.lt_int, D.le_int, D.gt_int, D.ge_int, D.tr_bl, D.truth_bl, D.int1_int, D.int1_bl, D.asInt_int, D.slice_lst, D.slice_tup, D.ix_lst, D.ix_tup, D.bagI_bag, D.bagC_bag, D.bagSet_bag, D.bagAdd_int, D.isBag_bag, D.len_lst, D.len_tup, D.min_int, D.max_int, D.abs_int, D.neg_int, D.tuple_lst, D.tuple_tup, D.iter_lst, D.iter_tup, D.items_lst, D.items_tup, D.rev_lst, atI_zero, atI_one, atI_two, atI_three, atI_four, atI_neg1, setAll_nil, setAll_cons, Tgt.set_nm, Tgt.set_tp, fin_rt, fin_nx, W.ite_and, W.ite_or, W.ite_andD, W.ite_orD, Bool.false_eq_true, if_true, if_false])
def refX (s : Str) : Xd := ⟨"Refused", [("why", .str s)]⟩
theorem is_swing {ε : Eps} (F : Fr) (hF : F.Ok) {one : Int} (h0 : 0 ≤ one) (h1 : one < F.n) {r s : List Int} (hr : Wk F true one (one, 1) r) (hs : Wk F false one (one, 1) s) (lr : r.length ≤ 100) (ls : s.length ≤ 100) : F_is_swing ε [F.e, .tup [enc r, enc s]] = W.pure (.bl true) := by
  obtain ⟨g1, g2, g3, g4, g5⟩ := hr.row hF h0 h1
  obtain ⟨k1, k2, k3, k4, k5⟩ := hs.row hF h0 h1
  unfold F_is_swing defW B_is_swing
  array_get_dec
  rw [show D.isi [D.tup [enc r, enc s], D.ty "tuple"] = W.pure (.bl true) from rfl]
  array_get_dec
  rw [lc_map [r, s] enc (fun _ => .bl true) rfl rfl (fun l _ => by
    array_get_dec
    rw [are_integers])]
  array_get_dec
  rw [show [D.bl true, D.bl true] = [(), ()].map (fun _ => D.bl true) from rfl, D.all_map]
  array_get_dec
  rw [lc2_nm [r, s] enc (fun l => l) enc (fun _ _ => true) (fun _ y => .bl (decide (0 ≤ y) && decide (y < F.n))) rfl rfl (fun _ _ => rfl) (fun l => [some F.e, some (D.tup [enc r, enc s]), none, none, some (enc l), none]) (fun _ _ => rfl) (fun _ _ _ _ => rfl) (fun l _ y _ _ => by
    array_get_dec
    rw [show F.e.ix (.int 0) = W.pure (.int F.n) from rfl, enc_int]
    array_get_dec) (by simp only [List.map_cons, List.map_nil, List.sum_cons, List.sum_nil]; exact size_le (by omega))]
  array_get_dec
  have e : (([r, s] : List (List Int)).flatMap fun l => (l.filter fun _ => true).map fun y => D.bl (decide (0 ≤ y) && decide (y < F.n))) = (r ++ s).map fun y => D.bl (decide (0 ≤ y) && decide (y < F.n)) := by
    have ft : ∀ l : List Int, (l.filter fun _ => true) = l := fun l => List.filter_eq_self.mpr fun _ _ => rfl
    simp [ft]
  rw [e, D.all_map]
  have ea : ((r ++ s).all fun y => decide (0 ≤ y) && decide (y < F.n)) = true := List.all_eq_true.mpr fun y hy => by
    have : 0 ≤ y ∧ y < F.n := (List.mem_append.mp hy).elim (g1 y) (k1 y)
    simp [this.1, this.2]
  rw [ea]
  array_get_dec
  rw [is_row F hF h0 h1 hr, is_row F hF h0 h1 hs]
  array_get_dec
  have ix0 : ∀ l : List Int, l.head? = some one → (enc l : D).ix (.int 0) = W.pure (.int one) := fun l hl => by
    cases l with
    | nil => cases hl
    | cons x xs =>
      have : x = one := by simpa using hl
      subst this
      rw [enc_list, List.map_cons]
      array_get_dec
      rfl
  rw [ix0 r g2, ix0 s k2]
  array_get_dec
  simp
theorem need_frame {ε : Eps} (F : Fr) (hF : F.Ok) : F_need_frame ε [F.e] = if F.goods = [] then W.raise ε (refX "frame") else W.pure .non := by
  unfold F_need_frame defW B_need_frame
  array_get_dec
  rw [all_good F hF]
  array_get_dec
  rw [show D.lst [] = D.lst (([] : List (List Int)).map enc) from rfl, D.eq_lst]
  array_get_dec
  by_cases h : F.goods = []
  · rw [if_pos h, if_pos (decide_eq_true h)]
    rfl
  · rw [if_neg h, if_neg (by simpa using h)]
theorem is_within {ε : Eps} (i a b : Int) : F_is_within ε [.int i, .int a, .int b] = W.pure (.bl (decide (a ≤ i) && decide (i ≤ b))) := by
  unfold F_is_within defW B_is_within
  array_get_dec
  rw [is_integer]
  array_get_dec
theorem sure_side {ε : Eps} (F : Fr) (hF : F.Ok) (one : Int) (h0 : 0 ≤ one) (h1 : one < F.n) : F_sure_side ε [F.e, .int one] = if F.goods = [] then W.raise ε (refX "frame") else W.pure (.str (if (F.goods.all fun l => decide (one ∈ l)) = true then "member" else if (F.goods.any fun l => decide (one ∈ l)) = true then "either" else "guest")) := by
  unfold F_sure_side defW B_sure_side
  array_get_dec
  rw [show F.e.ix (.int 0) = W.pure (.int F.n) from rfl]
  array_get_dec
  rw [is_within, W.pure_bind, D.truth_bl, W.pure_bind, if_neg (by simp [h0]; omega), need_frame F hF]
  by_cases h : F.goods = []
  · rw [if_pos h, if_pos h]
    rfl
  · rw [if_neg h, if_neg h]
    array_get_dec
    rw [lc_map F.goods enc (fun l => .bl (decide (one ∈ l))) (by
      array_get_dec
      rw [all_good F hF]
      array_get_dec) rfl (fun l _ => by
      array_get_dec
      rw [show D.int one = enc one from rfl, enc_list, D.in_tup])]
    array_get_dec
    rw [D.all_map, P98.D.any_map]
    array_get_dec
    cases (F.goods.all fun l => decide (one ∈ l)) <;> cases (F.goods.any fun l => decide (one ∈ l)) <;> rfl
theorem lots_many {ε : Eps} (F : Fr) (hF : F.Ok) : F_lots_many ε [F.e] = if F.goods = [] then W.raise ε (refX "frame") else W.pure (.int F.goods.length) := by
  unfold F_lots_many defW B_lots_many
  array_get_dec
  rw [need_frame F hF, all_good F hF]
  array_get_dec
  by_cases h : F.goods = []
  · rw [if_pos h, if_pos h]
    rfl
  · rw [if_neg h, if_neg h, List.length_map]
end
end P98

set_option Elab.async false
set_option linter.all false
set_option maxRecDepth 100000
set_option maxHeartbeats 1000000
namespace P98
open PySem PySem.Spec PyProof.Rows L2 PW Cod
section
local macro_rules | `(tactic| array_get_dec) => `(tactic| try simp only [W.need_len, W.need_len1, W.need_len2, W.need_len3, W.need_len4, W.need_sz0, W.need_sz1, W.need_sz2, W.need_sz3, W.need_sz4, W.need_sz5, mo_eps, nox_eps, inLam_eps, forW_nil, forW_cons, Bool.true_and, Bool.not_true, Bool.not_false, wipeE, W.bind_pure, W.need_T, D.asLst_lst, seqW, W.run_bind, W.run_pure, W.run_need, W.run_fail, W.run_fa, W.run_ite, W.pure_bind, W.fail_bind, W.bind_assoc, W.ite_bind, W.some?_some, getV_zero, getV_succ, startE, List.length_cons, List.length_nil, List.map_cons, List.map_nil, List.cons_append, List.nil_append, List.replicate, List.set_cons_zero, List.set_cons_succ, D.eq_int, D.ne_int, D.add_int, D.add_lst, D.add_tup, D.sub_int, D.mul_int, D.mul_0, D.mul_1, D.mul_one, D.fdiv_int, D.mod_int, D.lt_int, D.le_int, D.gt_int, D.ge_int, D.tr_bl, D.truth_bl, D.int1_int, D.int1_bl, D.asInt_int, D.slice_lst, D.slice_tup, D.ix_lst, D.ix_tup, D.bagI_bag, D.bagC_bag, D.bagSet_bag, D.bagAdd_int, D.isBag_bag, D.len_lst, D.len_tup, D.min_int, D.max_int, D.abs_int, D.neg_int, D.tuple_lst, D.tuple_tup, D.iter_lst, D.iter_tup, D.items_lst, D.items_tup, D.rev_lst, atI_zero, atI_one, atI_two, atI_three, atI_four, atI_neg1, setAll_nil, setAll_cons, Tgt.set_nm, Tgt.set_tp, fin_rt, fin_nx, W.ite_and, W.ite_or, W.ite_andD, W.ite_orD, Bool.false_eq_true, if_true, if_false])
def Fr.size (F : Fr) (one : Int) : Int := ((F.goods.filter fun l => decide (one ∈ l)).length : Nat)
def Fr.mark (F : Fr) (one : Int) : Int × Int := (max (F.size one) (F.goods.length - F.size one), one)
theorem best_person {ε : Eps} (F : Fr) (hF : F.Ok) (h1 : 1 ≤ F.n) : F_best_person ε [F.e] = if F.goods = [] then W.raise ε (refX "frame") else W.pure (if F.goods.length = 1 then .non else .int (mnC ((rngI 0 F.n).map F.mark)).2) := by
  have n0 := hF.n0
  have n6 := hF.n6
  unfold F_best_person defW B_best_person
  array_get_dec
  rw [need_frame F hF]
  by_cases h : F.goods = []
  · rw [if_pos h, if_pos h]
    rfl
  · rw [if_neg h, if_neg h]
    array_get_dec
    rw [all_good F hF]
    array_get_dec
    rw [List.length_map]
    by_cases hl : F.goods.length = 1
    · rw [if_pos (by rw [hl]; rfl), if_pos hl]
    · rw [if_neg (by simp; omega), if_neg hl]
      rw [show F.e.ix (.int 0) = W.pure (.int F.n) from rfl]
      array_get_dec
      rw [D.rng1_int ⟨by omega, by omega⟩]
      array_get_dec
      refine for_bind (e := enc) (fun done ρ => ∃ a b c, ρ = [some F.e, some (.lst (F.goods.map enc)), some (.lst ((done.map F.mark).map enc)), a, b, c]) (rngI 0 F.n) _ ⟨none, none, none, rfl⟩ (fun done x rest ρ hx ⟨a, b, c, hρ⟩ => by
        subst hρ
        have hd : done.length ≤ 6 := by
          have e := congrArg List.length hx
          rw [List.length_append, List.length_cons, rngI_length] at e
          omega
        refine ⟨[some F.e, some (.lst (F.goods.map enc)), some (.lst (((done ++ [x]).map F.mark).map enc)), some (.int x), some (.int (F.size x)), c], .inl ?_, _, _, _, rfl⟩
        array_get_dec
        rw [lc_nm F.goods enc (fun l => decide (x ∈ l)) enc rfl rfl (fun l _ => by
          array_get_dec
          rw [enc_list, D.in_tup]
          array_get_dec) (fun l _ _ => rfl)]
        array_get_dec
        simp only [List.length_map]
        rw [maxI, W.need_bind (Nat.lt_of_le_of_lt (show done.length ≤ 6 from hd) (by unfold sizeLine; decide)), List.map_append, List.map_append]
        rfl) (fun ρ' ⟨a, b, c, e⟩ => by
        subst e
        array_get_dec
        have hne : (rngI 0 F.n).map F.mark ≠ [] := by
          intro e
          have := congrArg List.length e
          rw [List.length_map, rngI_length, List.length_nil] at this
          omega
        have hm := e_minL ((rngI 0 F.n).map F.mark) hne (by decide)
        rw [show D.min [D.lst (List.map enc (List.map F.mark (rngI 0 F.n)))] = W.pure (enc (mnC ((rngI 0 F.n).map F.mark))) from hm]
        rfl)
theorem need_two {ε : Eps} (F : Fr) (a b : Int) (ha : 0 ≤ a ∧ a < F.n) (hb : 0 ≤ b ∧ b < F.n) (hab : a ≠ b) : F_need_two ε [F.e, .int a, .int b] = W.pure .non := by
  unfold F_need_two defW B_need_two
  array_get_dec
  rw [show F.e.ix (.int 0) = W.pure (.int F.n) from rfl]
  array_get_dec
  rw [is_within, is_within]
  array_get_dec
  rw [show (decide (0 ≤ a) && decide (a ≤ F.n - 1)) = true by simp [ha.1]; omega, show (decide (0 ≤ b) && decide (b ≤ F.n - 1)) = true by simp [hb.1]; omega]
  simp [hab]
def Fr.addK (F : Fr) (c : Int × Int) : Fr := ⟨F.n, csort (F.kn ++ [c]), F.ap⟩
def Fr.addA (F : Fr) (c : Int × Int) : Fr := ⟨F.n, F.kn, csort (F.ap ++ [c])⟩
theorem mem_op {F : Fr} {c : Int × Int} : c ∈ F.op ↔ (0 ≤ c.1 ∧ c.1 < c.2 ∧ c.2 < F.n) ∧ c ∉ F.kn ∧ c ∉ F.ap := by
  unfold Fr.op
  rw [List.mem_filter, mem_cpl]
  simp
theorem addK_ok {F : Fr} (hF : F.Ok) (hk : F.kn.length ≤ 50) {c : Int × Int} (hc : c ∈ F.op) : (F.addK c).Ok := by
  refine ⟨hF.n0, hF.n6, fun d hd => ?_, hF.ap, ?_, hF.la⟩
  · rcases List.mem_append.mp (mem_csort.mp hd) with hd | hd
    · exact hF.kn d hd
    · rw [List.mem_singleton.mp hd]; exact (mem_op.mp hc).1
  · show (csort (F.kn ++ [c])).length ≤ 100
    rw [csort_length, List.length_append, List.length_cons, List.length_nil]
    omega
theorem addA_ok {F : Fr} (hF : F.Ok) (hk : F.ap.length ≤ 50) {c : Int × Int} (hc : c ∈ F.op) : (F.addA c).Ok := by
  refine ⟨hF.n0, hF.n6, hF.kn, fun d hd => ?_, hF.lk, ?_⟩
  · rcases List.mem_append.mp (mem_csort.mp hd) with hd | hd
    · exact hF.ap d hd
    · rw [List.mem_singleton.mp hd]; exact (mem_op.mp hc).1
  · show (csort (F.ap ++ [c])).length ≤ 100
    rw [csort_length, List.length_append, List.length_cons, List.length_nil]
    omega
theorem tell {ε : Eps} (F : Fr) (hF : F.Ok) (c : Int × Int) (hc : c ∈ F.op) (k : Bool) : F_tell ε [F.e, .int c.1, .int c.2, .str (if k = true then "know" else "stranger")] = W.pure (if k = true then (F.addK c).e else (F.addA c).e) := by
  have ho := (mem_op.mp hc).1
  have lk := hF.lk
  have la := hF.la
  have wk : (wd "know" : OkS) ∈ [wd "know", wd "stranger"] := List.mem_cons_self
  have ws : (wd "stranger" : OkS) ∈ [wd "know", wd "stranger"] := List.mem_cons_of_mem _ List.mem_cons_self
  have ne_ : (wd "stranger" : OkS) ≠ wd "know" := by decide
  have i1 : D.notIn (.str (Str.ofString "know")) (.tup [.str (Str.ofString "know"), .str (Str.ofString "stranger")]) = W.pure (.bl false) := by
    have := D.notIn_tup (wd "know") [wd "know", wd "stranger"]
    rw [decide_eq_true wk] at this
    exact this
  have i2 : D.notIn (.str (Str.ofString "stranger")) (.tup [.str (Str.ofString "know"), .str (Str.ofString "stranger")]) = W.pure (.bl false) := by
    have := D.notIn_tup (wd "stranger") [wd "know", wd "stranger"]
    rw [decide_eq_true ws] at this
    exact this
  have q1 : D.eq (.str (Str.ofString "know")) (.str (Str.ofString "know")) = W.pure (.bl true) := by
    have := D.eq_enc (wd "know") (wd "know")
    rw [decide_eq_true rfl] at this
    exact this
  have q2 : D.eq (.str (Str.ofString "stranger")) (.str (Str.ofString "know")) = W.pure (.bl false) := by
    have := D.eq_enc (wd "stranger") (wd "know")
    rw [decide_eq_false ne_] at this
    exact this
  unfold F_tell defW B_tell
  array_get_dec
  rw [need_two F c.1 c.2 ⟨by omega, by omega⟩ ⟨by omega, by omega⟩ (by omega)]
  array_get_dec
  rw [show D.isi [D.str (if k = true then "know" else "stranger"), D.ty "str"] = W.pure (.bl true) from rfl, open_couples F hF]
  array_get_dec
  rw [minI, maxI, Int.min_eq_left (by omega), Int.max_eq_right (by omega), show D.tup [.int c.1, .int c.2] = enc c from rfl, enc_list, D.notIn_tup, decide_eq_true hc]
  have so : ∀ xs : List (Int × Int), xs.length ≤ 100 → D.sorted [D.tup (List.map enc xs ++ [enc c])] = W.pure (.lst ((csort (xs ++ [c])).map enc)) := fun xs hl => by
    have := D.sorted_tup (xs ++ [c]) (size_le (by rw [List.length_append, List.length_cons, List.length_nil]; omega))
    rw [List.map_append] at this
    exact this
  cases k with
  | true =>
    simp only [if_true]
    rw [i1]
    array_get_dec
    unfold Fr.e
    array_get_dec
    rw [q1]
    array_get_dec
    rw [W.need_size (by rw [List.length_append, List.length_map, List.length_cons, List.length_nil]; omega), so F.kn lk]
    array_get_dec
    rfl
  | false =>
    simp only [Bool.false_eq_true, if_false]
    rw [i2]
    array_get_dec
    unfold Fr.e
    array_get_dec
    rw [q2]
    array_get_dec
    rw [W.need_size (by rw [List.length_append, List.length_map, List.length_cons, List.length_nil]; omega), so F.ap la]
    array_get_dec
    rfl
end
end P98

set_option Elab.async false
set_option linter.all false
set_option maxRecDepth 100000
set_option maxHeartbeats 1000000
namespace P98
open PySem PySem.Spec PyProof.Rows L2 PW Cod
section
local macro_rules | `(tactic| array_get_dec) => `(tactic| try simp only [W.need_len, W.need_len1, W.need_len2, W.need_len3, W.need_len4, W.need_sz0, W.need_sz1, W.need_sz2, W.need_sz3, W.need_sz4, W.need_sz5, mo_eps, nox_eps, inLam_eps, forW_nil, forW_cons, Bool.true_and, Bool.not_true, Bool.not_false, wipeE, W.bind_pure, W.need_T, D.asLst_lst, seqW, W.run_bind, W.run_pure, W.run_need, W.run_fail, W.run_fa, W.run_ite, W.pure_bind, W.fail_bind, W.bind_assoc, W.ite_bind, W.some?_some, getV_zero, getV_succ, startE, List.length_cons, List.length_nil, List.map_cons, List.map_nil, List.cons_append, List.nil_append, List.replicate, List.set_cons_zero, List.set_cons_succ, D.eq_int, D.ne_int, D.add_int, D.add_lst, D.add_tup, D.sub_int, D.mul_int, D.mul_0, D.mul_1, D.mul_one, D.fdiv_int, D.mod_int, D.lt_int, D.le_int, D.gt_int, D.ge_int, D.tr_bl, D.truth_bl, D.int1_int, D.int1_bl, D.asInt_int, D.slice_lst, D.slice_tup, D.ix_lst, D.ix_tup, D.bagI_bag, D.bagC_bag, D.bagSet_bag, D.bagAdd_int, D.isBag_bag, D.len_lst, D.len_tup, D.min_int, D.max_int, D.abs_int, D.neg_int, D.tuple_lst, D.tuple_tup, D.iter_lst, D.iter_tup, D.items_lst, D.items_tup, D.rev_lst, atI_zero, atI_one, atI_two, atI_three, atI_four, atI_neg1, setAll_nil, setAll_cons, Tgt.set_nm, Tgt.set_tp, fin_rt, fin_nx, W.ite_and, W.ite_or, W.ite_andD, W.ite_orD, Bool.false_eq_true, if_true, if_false])
def Fr.add (F : Fr) (k : Bool) (c : Int × Int) : Fr := if k = true then F.addK c else F.addA c
theorem add_ok {F : Fr} (hF : F.Ok) (lk : F.kn.length ≤ 50) (la : F.ap.length ≤ 50) {c : Int × Int} (hc : c ∈ F.op) (k : Bool) : (F.add k c).Ok := by
  unfold Fr.add
  split
  · exact addK_ok hF lk hc
  · exact addA_ok hF la hc
def Fr.sure (F : Fr) (k : Bool) : List (Int × Int) := F.op.filter fun c => decide ((F.add k c).goods = [])
theorem sure_by {ε : Eps} (F : Fr) (hF : F.Ok) (lk : F.kn.length ≤ 50) (la : F.ap.length ≤ 50) (k : Bool) : F_sure_by ε [F.e, .str (if k = true then "know" else "stranger")] = W.pure (enc (F.sure k)) := by
  unfold F_sure_by defW B_sure_by
  array_get_dec
  rw [lc_tp F.op (fun c => enc c.1) (fun c => enc c.2) (fun c => decide ((F.add k c).goods = [])) enc (by
      array_get_dec
      rw [open_couples F hF, enc_list]
      array_get_dec
      rfl) rfl (fun c hc => by
      array_get_dec
      rw [enc_int, enc_int, tell F hF c hc k, W.pure_bind, show (if k = true then (F.addK c).e else (F.addA c).e) = (F.add k c).e by unfold Fr.add; split <;> rfl, all_good _ (add_ok hF lk la hc k)]
      array_get_dec
      rw [show D.lst [] = D.lst (([] : List (List Int)).map enc) from rfl, D.eq_lst]
      array_get_dec) (fun c _ _ => rfl)]
  array_get_dec
  rfl
theorem surely_known {ε : Eps} (F : Fr) (hF : F.Ok) (lk : F.kn.length ≤ 50) (la : F.ap.length ≤ 50) : F_surely_known ε [F.e] = if F.goods = [] then W.raise ε (refX "frame") else W.pure (enc (F.sure false)) := by
  unfold F_surely_known defW B_surely_known
  array_get_dec
  rw [need_frame F hF]
  by_cases h : F.goods = []
  · rw [if_pos h, if_pos h]
    rfl
  · rw [if_neg h, if_neg h]
    array_get_dec
    exact sure_by F hF lk la false
theorem sure_strangers {ε : Eps} (F : Fr) (hF : F.Ok) (lk : F.kn.length ≤ 50) (la : F.ap.length ≤ 50) : F_sure_strangers ε [F.e] = if F.goods = [] then W.raise ε (refX "frame") else W.pure (enc (F.sure true)) := by
  unfold F_sure_strangers defW B_sure_strangers
  array_get_dec
  rw [need_frame F hF]
  by_cases h : F.goods = []
  · rw [if_pos h, if_pos h]
    rfl
  · rw [if_neg h, if_neg h]
    array_get_dec
    exact sure_by F hF lk la true
/-! ### filled_by -/
def addC (acc : List (Int × Int)) (c : Int × Int) : List (Int × Int) := if c ∈ acc then acc else acc ++ [c]
def pairK (ks : List (Int × Int)) : List (List Key × D) := ks.map fun c => (kk c, D.bl true)
theorem put_pairK (acc : List (Int × Int)) (c : Int × Int) : putD (pairK acc) (kk c) (D.bl true) = pairK (addC acc c) := by
  have ha : ((pairK acc).any fun kv => decide (kv.1 = kk c)) = decide (c ∈ acc) := by
    unfold pairK
    rw [List.any_map, Bool.eq_iff_iff, List.any_eq_true, decide_eq_true_eq]
    constructor
    · rintro ⟨e, h1, h2⟩
      rw [← kk_inj (of_decide_eq_true h2)]
      exact h1
    · intro h
      exact ⟨c, h, decide_eq_true rfl⟩
  unfold putD
  rw [ha]
  unfold addC
  by_cases h : c ∈ acc
  · rw [if_pos (decide_eq_true h), if_pos h]
    unfold pairK
    rw [List.map_map]
    refine List.map_congr_left fun e _ => ?_
    show (if kk e = kk c then (kk e, D.bl true) else (kk e, D.bl true)) = _
    split <;> rfl
  · rw [if_neg (by simpa using h), if_neg h]
    unfold pairK
    rw [List.map_append]
    rfl
theorem addC_len (acc : List (Int × Int)) (c : Int × Int) : (addC acc c).length ≤ acc.length + 1 := by
  unfold addC
  split
  · omega
  · rw [List.length_append]; exact Nat.le_refl _
theorem addCs_len : ∀ (cs acc : List (Int × Int)), (cs.foldl addC acc).length ≤ acc.length + cs.length
  | [], acc => Nat.le_refl _
  | c :: cs, acc => by
    have h1 := addCs_len cs (addC acc c)
    have h2 := addC_len acc c
    rw [List.foldl_cons, List.length_cons]
    omega
theorem mem_addCs {d : Int × Int} : ∀ {cs acc : List (Int × Int)}, d ∈ cs.foldl addC acc ↔ d ∈ acc ∨ d ∈ cs
  | [], acc => by simp
  | c :: cs, acc => by
    rw [List.foldl_cons, mem_addCs, List.mem_cons]
    unfold addC
    split
    · rename_i h
      constructor
      · rintro (k | k)
        · exact .inl k
        · exact .inr (.inr k)
      · rintro (k | k | k)
        · exact .inl k
        · exact .inl (by rw [k]; exact h)
        · exact .inr k
    · rw [List.mem_append, List.mem_singleton]
      constructor
      · rintro ((k | k) | k)
        · exact .inl k
        · exact .inr (.inl k)
        · exact .inr (.inr k)
      · rintro (k | k | k)
        · exact .inl (.inl k)
        · exact .inl (.inr k)
        · exact .inr k
theorem addCs_nodup : ∀ {cs acc : List (Int × Int)}, acc.Nodup → (cs.foldl addC acc).Nodup
  | [], _, h => h
  | c :: cs, acc, h => by
    rw [List.foldl_cons]
    refine addCs_nodup ?_
    unfold addC
    split
    · exact h
    · rename_i hc
      exact List.nodup_append.mpr ⟨h, by simp, fun x hx y hy e => hc (by rw [← List.mem_singleton.mp hy, ← e]; exact hx)⟩
theorem dcompT_true {i : Nat} {ρ : PW.Env} {p : PW.Env → W Bool} {fk fv : PW.Env → W D} (hp : ∀ c : Int × Int, p (ρ.set i (some (enc c))) = W.pure true) (hk : ∀ c : Int × Int, fk (ρ.set i (some (enc c))) = W.pure (enc c)) (hv : ∀ c : Int × Int, fv (ρ.set i (some (enc c))) = W.pure (.bl true)) :
    ∀ (cs acc : List (Int × Int)), acc.length + cs.length ≤ 100000 → dcompT (.nm i) p fk fv (cs.map enc) ρ (pairK acc) = W.pure (pairK (cs.foldl addC acc))
  | [], acc, _ => rfl
  | c :: cs, acc, h => by
    rw [List.length_cons] at h
    have hl : (pairK acc).length < sizeLine := by
      unfold pairK
      rw [List.length_map]
      exact Nat.lt_of_le_of_lt (show acc.length ≤ 100000 by omega) (by unfold sizeLine; decide)
    have h2 := addC_len acc c
    rw [List.map_cons, dcompT, Tgt.set_nm, W.pure_bind, hp, W.pure_bind, if_pos rfl, hk, W.pure_bind, hv, W.pure_bind, show tupKey (enc c) = some (kk c) from rfl, W.some?_some, W.pure_bind, W.need_bind hl, put_pairK, List.foldl_cons]
    exact dcompT_true hp hk hv cs (addC acc c) (by omega)
theorem sorted_pairK (ks : List (Int × Int)) (h : ks.length ≤ 100000) : D.sorted [.dT (pairK ks)] = W.pure (.lst ((csort ks).map enc)) := by
  have e : (pairK ks).map (fun kv => D.tup (kv.1.map keyD)) = ks.map enc := by
    unfold pairK
    rw [List.map_map]
    exact List.map_congr_left fun k _ => rfl
  show (W.pure ((pairK ks).map fun kv => D.tup (kv.1.map keyD))).bind (fun ds => (W.need (SortOk ds ∧ ds.length ≤ sizeLine)).bind fun _ => W.pure (D.lst (sortL ds))) = _
  rw [e, W.pure_bind]
  exact D.sorted_lst ks (size_le (by omega))
def Fr.ins (F : Fr) (l : List Int) : List (Int × Int) := (cpl F.n).filter fun c => decide (c.1 ∈ l) && decide (c.2 ∈ l)
def Fr.by_ (F : Fr) (l : List Int) : Tb := (F.n, csort ((F.kn ++ F.ins l).foldl addC []))
theorem filled_by {ε : Eps} (F : Fr) (hF : F.Ok) (l : List Int) (h1 : F.isLot l = true) (h2 : F.good l = true) : F_filled_by ε [F.e, enc l] = W.pure (F.by_ l).e := by
  have n0 := hF.n0
  have n6 := hF.n6
  have lk := hF.lk
  unfold F_filled_by defW B_filled_by
  array_get_dec
  rw [does_part, h1, h2]
  array_get_dec
  rw [lc_tp (cpl F.n) (fun c => enc c.1) (fun c => enc c.2) (fun c => decide (c.1 ∈ l) && decide (c.2 ∈ l)) enc (by
      array_get_dec
      rw [show F.e.ix (.int 0) = W.pure (.int F.n) from rfl]
      array_get_dec
      rw [all_couples _ n0 n6]
      array_get_dec
      rfl) rfl (fun c _ => by
      array_get_dec
      rw [enc_list, D.in_tup, D.in_tup]
      array_get_dec) (fun c _ _ => rfl)]
  array_get_dec
  rw [show F.e.ix (.int 0) = W.pure (.int F.n) from rfl]
  array_get_dec
  have l36 := cpl_len F.n n6
  have li : (F.ins l).length ≤ 36 := Nat.le_trans (List.length_filter_le _ _) l36
  have hall := addCs_len (F.kn ++ F.ins l) []
  rw [List.length_append, List.length_nil] at hall
  unfold dcTW
  array_get_dec
  rw [show F.e.ix (.int 1) = W.pure (.tup (F.kn.map enc)) from rfl]
  array_get_dec
  rw [List.append_nil, show List.filter (fun c => decide (c.fst ∈ l) && decide (c.snd ∈ l)) (cpl F.n) = F.ins l from rfl, W.need_size (by rw [List.length_append, List.length_map, List.length_map]; omega), ← List.map_append,
    show ([] : List (List Key × D)) = pairK [] from rfl, dcompT_true (fun _ => rfl) (fun c => by array_get_dec) (fun _ => rfl) _ _ (by rw [List.length_append, List.length_nil]; omega)]
  array_get_dec
  rw [sorted_pairK _ (by omega)]
  array_get_dec
  rfl
end
end P98

set_option Elab.async false
set_option linter.all false
set_option maxRecDepth 100000
set_option maxHeartbeats 1000000
namespace P98
open PySem PySem.Spec PyProof.Rows L2 PW Cod
section
local macro_rules | `(tactic| array_get_dec) => `(tactic| try simp only [W.need_len, W.need_len1, W.need_len2, W.need_len3, W.need_len4, W.need_sz0, W.need_sz1, W.need_sz2, W.need_sz3, W.need_sz4, W.need_sz5, mo_eps, nox_eps, inLam_eps, forW_nil, forW_cons, Bool.true_and, Bool.not_true, Bool.not_false, wipeE, W.bind_pure, W.need_T, D.asLst_lst, seqW, W.run_bind, W.run_pure, W.run_need, W.run_fail, W.run_fa, W.run_ite, W.pure_bind, W.fail_bind, W.bind_assoc, W.ite_bind, W.some?_some, getV_zero, getV_succ, startE, List.length_cons, List.length_nil, List.map_cons, List.map_nil, List.cons_append, List.nil_append, List.replicate, List.set_cons_zero, List.set_cons_succ, D.eq_int, D.ne_int, D.add_int, D.add_lst, D.add_tup, D.sub_int, D.mul_int, D.mul_0, D.mul_1, D.mul_one, D.fdiv_int, D.mod_int, D.lt_int, D.le_int, D.gt_int, D.ge_int, D.tr_bl, D.truth_bl, D.int1_int, D.int1_bl, D.asInt_int, D.slice_lst, D.slice_tup, D.ix_lst, D.ix_tup, D.bagI_bag, D.bagC_bag, D.bagSet_bag, D.bagAdd_int, D.isBag_bag, D.len_lst, D.len_tup, D.min_int, D.max_int, D.abs_int, D.neg_int, D.tuple_lst, D.tuple_tup, D.iter_lst, D.iter_tup, D.items_lst, D.items_tup, D.rev_lst, atI_zero, atI_one, atI_two, atI_three, atI_four, atI_neg1, setAll_nil, setAll_cons, Tgt.set_nm, Tgt.set_tp, fin_rt, fin_nx, W.ite_and, W.ite_or, W.ite_andD, W.ite_orD, Bool.false_eq_true, if_true, if_false])
/-! ### frames and the tables that fill them -/
theorem cpl_sorted {n : Int} (h0 : 0 ≤ n) (h6 : n ≤ 6) : (cpl n).Pairwise fun a b => cle a b = true := by
  have : n = 0 ∨ n = 1 ∨ n = 2 ∨ n = 3 ∨ n = 4 ∨ n = 5 ∨ n = 6 := by omega
  rcases this with rfl | rfl | rfl | rfl | rfl | rfl | rfl <;> decide +kernel
theorem parts_iff {T : Tb} {l : List Int} (hl : ∀ x ∈ l, 0 ≤ x ∧ x < T.1) (hT : T.Ok) : T.parts l = true ↔ ∀ c ∈ cpl T.1, (c.1 ∈ l ∧ c.2 ∈ l → c ∈ T.2) ∧ (c.1 ∉ l ∧ c.2 ∉ l → c ∉ T.2) := by
  unfold Tb.parts Tb.full Tb.empt
  rw [Bool.and_eq_true, List.all_eq_true, List.all_eq_true]
  have mo : ∀ x, x ∈ T.oth l ↔ (0 ≤ x ∧ x < T.1) ∧ x ∉ l := fun x => by unfold Tb.oth; rw [List.mem_filter, mem_rngI]; simp
  constructor
  · rintro ⟨h1, h2⟩ c hc
    have hc' := mem_cpl.mp hc
    refine ⟨fun ⟨ha, hb⟩ => ?_, fun ⟨ha, hb⟩ hm => ?_⟩
    · have := List.all_eq_true.mp (h1 c.1 ha) c.2 hb
      rw [kn_lt hc'.2.1, Bool.or_eq_true, decide_eq_true_eq, decide_eq_true_eq] at this
      rcases this with h | h
      · omega
      · exact h
    · have := List.all_eq_true.mp (h2 c.1 ((mo _).mpr ⟨by omega, ha⟩)) c.2 ((mo _).mpr ⟨by omega, hb⟩)
      rw [kn_lt hc'.2.1, Bool.or_eq_true, decide_eq_true_eq, Bool.not_eq_true', decide_eq_false_iff_not] at this
      rcases this with h | h
      · omega
      · exact h hm
  · intro h
    refine ⟨fun a ha => List.all_eq_true.mpr fun b hb => ?_, fun a ha => List.all_eq_true.mpr fun b hb => ?_⟩
    · rw [Bool.or_eq_true, decide_eq_true_eq]
      by_cases hab : a = b
      · exact .inl hab
      · refine .inr ?_
        have key : ∀ a b, a ∈ l → b ∈ l → a < b → T.kn a b = true := fun a b ha hb hlt => by
          rw [kn_lt hlt, decide_eq_true_eq]
          exact (h (a, b) (mem_cpl.mpr ⟨(hl a ha).1, hlt, (hl b hb).2⟩)).1 ⟨ha, hb⟩
        rcases Int.lt_or_gt_of_ne hab with hlt | hlt
        · exact key a b ha hb hlt
        · rw [kn_symm]; exact key b a hb ha hlt
    · rw [Bool.or_eq_true, decide_eq_true_eq, Bool.not_eq_true']
      by_cases hab : a = b
      · exact .inl hab
      · refine .inr ?_
        have ha := (mo a).mp ha
        have hb := (mo b).mp hb
        have key : ∀ a b, (0 ≤ a ∧ a < T.1) ∧ a ∉ l → (0 ≤ b ∧ b < T.1) ∧ b ∉ l → a < b → T.kn a b = false := fun a b ha hb hlt => by
          rw [kn_lt hlt, decide_eq_false_iff_not]
          exact (h (a, b) (mem_cpl.mpr ⟨ha.1.1, hlt, hb.1.2⟩)).2 ⟨ha.2, hb.2⟩
        rcases Int.lt_or_gt_of_ne hab with hlt | hlt
        · exact key a b ha hb hlt
        · rw [kn_symm]; exact key b a hb ha hlt
/-- known ones and strangers apart -/
structure Fr.Fine (F : Fr) : Prop where
  ok : F.Ok
  apart : ∀ c ∈ F.kn, c ∉ F.ap
  nd : F.kn.Nodup
def Fr.tab (F : Fr) (row : List (Int × Int)) : Tb := (F.n, csort (F.kn ++ row))
theorem mem_tab {F : Fr} {row : List (Int × Int)} {c : Int × Int} : c ∈ (F.tab row).2 ↔ c ∈ F.kn ∨ c ∈ row := by
  unfold Fr.tab
  rw [mem_csort, List.mem_append]
theorem in_cpl {F : Fr} (hF : F.Ok) {c : Int × Int} : c ∈ cpl F.n ↔ c ∈ F.kn ∨ c ∈ F.ap ∨ c ∈ F.op := by
  rw [mem_op, mem_cpl]
  constructor
  · intro h
    by_cases h1 : c ∈ F.kn
    · exact .inl h1
    · by_cases h2 : c ∈ F.ap
      · exact .inr (.inl h2)
      · exact .inr (.inr ⟨h, h1, h2⟩)
  · rintro (h | h | h)
    · exact hF.kn c h
    · exact hF.ap c h
    · exact h.1
theorem tab_ok {F : Fr} (hF : F.Fine) {row : List (Int × Int)} (hr : row.Sublist F.op) : (F.tab row).Ok := by
  refine ⟨hF.ok.n0, hF.ok.n6, ?_, fun c hc => ?_⟩
  · refine (csort_perm _).nodup_iff.mpr (List.nodup_append.mpr ⟨hF.nd, ?_, fun x hx y hy e => ?_⟩)
    · exact ((cpl_nodup F.n).sublist List.filter_sublist).sublist hr
    · exact (mem_op.mp (hr.subset hy)).2.1 (by rw [← e]; exact hx)
  · rcases mem_tab.mp hc with h | h
    · exact hF.ok.kn c h
    · exact (mem_op.mp (hr.subset h)).1
theorem lot_in {F : Fr} {l : List Int} (h : l ∈ F.lots) : ∀ x ∈ l, 0 ≤ x ∧ x < F.n := fun x hx => mem_rngI.mp ((mem_lots.mp h).subset hx)
/-- a table that fills the frame and is parted by a lot: the lot parts the frame -/
theorem good_of {F : Fr} (hF : F.Fine) {row : List (Int × Int)} (hr : row.Sublist F.op) {l : List Int} (hl : l ∈ F.lots) (h : (F.tab row).parts l = true) : F.good l = true := by
  have h := (parts_iff (T := F.tab row) (lot_in hl) (tab_ok hF hr)).mp h
  refine good_iff.mpr ⟨fun c hc k => ?_, fun c hc => ?_⟩
  · rcases mem_tab.mp ((h c ((in_cpl hF.ok).mpr (.inr (.inl hc)))).1 k) with q | q
    · exact hF.apart c q hc
    · exact (mem_op.mp (hr.subset q)).2.2 hc
  · by_cases h1 : c.1 ∈ l
    · exact .inl h1
    · by_cases h2 : c.2 ∈ l
      · exact .inr h2
      · exact absurd (mem_tab.mpr (.inl hc)) ((h c ((in_cpl hF.ok).mpr (.inl hc))).2 ⟨h1, h2⟩)
/-- a lot that parts the frame: the tables with all open couples inside, and any that are not outside -/
theorem parts_of {F : Fr} (hF : F.Fine) {row : List (Int × Int)} (hr : row.Sublist F.op) {l : List Int} (hl : l ∈ F.lots) (hg : F.good l = true) (h1 : ∀ c ∈ F.op, c.1 ∈ l ∧ c.2 ∈ l → c ∈ row) (h2 : ∀ c ∈ row, c.1 ∈ l ∨ c.2 ∈ l) : (F.tab row).parts l = true := by
  obtain ⟨g1, g2⟩ := good_iff.mp hg
  refine (parts_iff (T := F.tab row) (lot_in hl) (tab_ok hF hr)).mpr fun c hc => ⟨fun k => mem_tab.mpr ?_, fun k hm => ?_⟩
  · rcases (in_cpl hF.ok).mp hc with q | q | q
    · exact .inl q
    · exact absurd k (g1 c q)
    · exact .inr (h1 c q k)
  · have : c.1 ∈ l ∨ c.2 ∈ l := (mem_tab.mp hm).elim (g2 c) (h2 c)
    exact this.elim k.1 k.2
def Fr.inn (F : Fr) (l : List Int) : List (Int × Int) := F.op.filter fun c => decide (c.1 ∈ l) && decide (c.2 ∈ l)
theorem inn_parts {F : Fr} (hF : F.Fine) {l : List Int} (hl : l ∈ F.lots) (hg : F.good l = true) : (F.tab (F.inn l)).parts l = true :=
  parts_of hF List.filter_sublist hl hg (fun c hc k => List.mem_filter.mpr ⟨hc, by simp [k.1, k.2]⟩) fun c hc => by
    have := (List.mem_filter.mp hc).2
    simp only [Bool.and_eq_true, decide_eq_true_eq] at this
    exact .inl this.1
theorem addA_good {F : Fr} {c : Int × Int} {l : List Int} : (F.addA c).good l = true ↔ F.good l = true ∧ ¬(c.1 ∈ l ∧ c.2 ∈ l) := by
  rw [good_iff, good_iff]
  constructor
  · rintro ⟨h1, h2⟩
    exact ⟨⟨fun d hd => h1 d (mem_csort.mpr (List.mem_append_left _ hd)), h2⟩, h1 c (mem_csort.mpr (List.mem_append_right _ (by simp)))⟩
  · rintro ⟨⟨h1, h2⟩, h3⟩
    refine ⟨fun d hd => ?_, h2⟩
    rcases List.mem_append.mp (mem_csort.mp hd) with hd | hd
    · exact h1 d hd
    · rw [List.mem_singleton.mp hd]; exact h3
theorem addK_good {F : Fr} {c : Int × Int} {l : List Int} : (F.addK c).good l = true ↔ F.good l = true ∧ (c.1 ∈ l ∨ c.2 ∈ l) := by
  rw [good_iff, good_iff]
  constructor
  · rintro ⟨h1, h2⟩
    exact ⟨⟨h1, fun d hd => h2 d (mem_csort.mpr (List.mem_append_left _ hd))⟩, h2 c (mem_csort.mpr (List.mem_append_right _ (by simp)))⟩
  · rintro ⟨⟨h1, h2⟩, h3⟩
    refine ⟨h1, fun d hd => ?_⟩
    rcases List.mem_append.mp (mem_csort.mp hd) with hd | hd
    · exact h2 d hd
    · rw [List.mem_singleton.mp hd]; exact h3
theorem ne_nil_iff {α : Type} {xs : List α} : xs ≠ [] ↔ ∃ x, x ∈ xs := ⟨fun h => List.exists_mem_of_ne_nil _ h, fun ⟨_, h⟩ => List.ne_nil_of_mem h⟩
theorem addA_ne {F : Fr} (hF : F.Fine) {c : Int × Int} (hc : c ∈ F.op) : (F.addA c).goods ≠ [] ↔ ∃ row : List (Int × Int), row.Sublist F.op ∧ (∃ l ∈ F.lots, (F.tab row).parts l = true) ∧ c ∉ (F.tab row).2 := by
  rw [ne_nil_iff]
  constructor
  · rintro ⟨l, hl⟩
    obtain ⟨h1, h2⟩ := mem_goods.mp hl
    obtain ⟨h2, h3⟩ := addA_good.mp h2
    refine ⟨F.inn l, List.filter_sublist, ⟨l, h1, inn_parts hF h1 h2⟩, fun h => ?_⟩
    rcases mem_tab.mp h with h | h
    · exact (mem_op.mp hc).2.1 h
    · have := (List.mem_filter.mp h).2
      simp only [Bool.and_eq_true, decide_eq_true_eq] at this
      exact h3 this
  · rintro ⟨row, hr, ⟨l, hl, hp⟩, hn⟩
    refine ⟨l, mem_goods.mpr ⟨hl, addA_good.mpr ⟨good_of hF hr hl hp, fun k => hn ?_⟩⟩⟩
    exact ((parts_iff (T := F.tab row) (lot_in hl) (tab_ok hF hr)).mp hp c ((in_cpl hF.ok).mpr (.inr (.inr hc)))).1 k
theorem addK_ne {F : Fr} (hF : F.Fine) {c : Int × Int} (hc : c ∈ F.op) : (F.addK c).goods ≠ [] ↔ ∃ row : List (Int × Int), row.Sublist F.op ∧ (∃ l ∈ F.lots, (F.tab row).parts l = true) ∧ c ∈ (F.tab row).2 := by
  rw [ne_nil_iff]
  constructor
  · rintro ⟨l, hl⟩
    obtain ⟨h1, h2⟩ := mem_goods.mp hl
    obtain ⟨h2, h3⟩ := addK_good.mp h2
    refine ⟨F.op.filter fun d => decide (d = c) || (decide (d.1 ∈ l) && decide (d.2 ∈ l)), List.filter_sublist, ⟨l, h1, ?_⟩, mem_tab.mpr (.inr (List.mem_filter.mpr ⟨hc, by simp⟩))⟩
    refine parts_of hF List.filter_sublist h1 h2 (fun d hd k => List.mem_filter.mpr ⟨hd, by simp [k.1, k.2]⟩) fun d hd => ?_
    have := (List.mem_filter.mp hd).2
    simp only [Bool.or_eq_true, Bool.and_eq_true, decide_eq_true_eq] at this
    rcases this with e | e
    · rw [e]; exact h3
    · exact .inl e.1
  · rintro ⟨row, hr, ⟨l, hl, hp⟩, hm⟩
    refine ⟨l, mem_goods.mpr ⟨hl, addK_good.mpr ⟨good_of hF hr hl hp, ?_⟩⟩⟩
    by_cases h1 : c.1 ∈ l
    · exact .inl h1
    · by_cases h2 : c.2 ∈ l
      · exact .inr h2
      · exact absurd hm (((parts_iff (T := F.tab row) (lot_in hl) (tab_ok hF hr)).mp hp c ((in_cpl hF.ok).mpr (.inr (.inr hc)))).2 ⟨h1, h2⟩)
end
end P98

set_option Elab.async false
set_option linter.all false
set_option maxRecDepth 100000
set_option maxHeartbeats 1000000
namespace P98
open PySem PySem.Spec PyProof.Rows L2 PW Cod
section
local macro_rules | `(tactic| array_get_dec) => `(tactic| try simp only [W.need_len, W.need_len1, W.need_len2, W.need_len3, W.need_len4, W.need_sz0, W.need_sz1, W.need_sz2, W.need_sz3, W.need_sz4, W.need_sz5, mo_eps, nox_eps, inLam_eps, forW_nil, forW_cons, Bool.true_and, Bool.not_true, Bool.not_false, wipeE, W.bind_pure, W.need_T, D.asLst_lst, seqW, W.run_bind, W.run_pure, W.run_need, W.run_fail, W.run_fa, W.run_ite, W.pure_bind, W.fail_bind, W.bind_assoc, W.ite_bind, W.some?_some, getV_zero, getV_succ, startE, List.length_cons, List.length_nil, List.map_cons, List.map_nil, List.cons_append, List.nil_append, List.replicate, List.set_cons_zero, List.set_cons_succ, D.eq_int, D.ne_int, D.add_int, D.add_lst, D.add_tup, D.sub_int, D.mul_int, D.mul_0, D.mul_1, D.mul_one, D.fdiv_int, D.mod_int, D.lt_int, D.le_int, D.gt_int, D.ge_int, D.tr_bl, D.truth_bl, D.int1_int, D.int1_bl, D.asInt_int, D.slice_lst, D.slice_tup, D.ix_lst, D.ix_tup, D.bagI_bag, D.bagC_bag, D.bagSet_bag, D.bagAdd_int, D.isBag_bag, D.len_lst, D.len_tup, D.min_int, D.max_int, D.abs_int, D.neg_int, D.tuple_lst, D.tuple_tup, D.iter_lst, D.iter_tup, D.items_lst, D.items_tup, D.rev_lst, atI_zero, atI_one, atI_two, atI_three, atI_four, atI_neg1, setAll_nil, setAll_cons, Tgt.set_nm, Tgt.set_tp, fin_rt, fin_nx, W.ite_and, W.ite_or, W.ite_andD, W.ite_orD, Bool.false_eq_true, if_true, if_false])
def subs {α : Type} (xs : List α) : List (List α) := xs.foldl (fun acc x => acc ++ acc.map (· ++ [x])) [[]]
theorem subs_snoc {α : Type} (xs : List α) (x : α) : subs (xs ++ [x]) = subs xs ++ (subs xs).map (· ++ [x]) := by
  unfold subs
  rw [List.foldl_append]
  rfl
theorem subs_len {α : Type} (xs : List α) : (subs xs).length = 2 ^ xs.length := by
  induction xs using snoc_ind with
  | h0 => rfl
  | hs xs x ih =>
    rw [subs_snoc, List.length_append, List.length_map, ih, List.length_append, List.length_cons, List.length_nil, Nat.pow_succ]
    omega
theorem mem_subs {α : Type} (xs : List α) : ∀ l, l ∈ subs xs ↔ l.Sublist xs := by
  induction xs using snoc_ind with
  | h0 => intro l; simp [subs]
  | hs xs x ih =>
    intro l
    rw [subs_snoc, List.mem_append, List.mem_map]
    constructor
    · rintro (h | ⟨m, h, rfl⟩)
      · exact ((ih l).mp h).trans (List.sublist_append_left _ _)
      · exact ((ih m).mp h).append (List.Sublist.refl _)
    · intro h
      obtain ⟨l1, l2, rfl, h1, h2⟩ := List.sublist_append_iff.mp h
      cases l2 with
      | nil => exact .inl (by rw [List.append_nil]; exact (ih _).mpr h1)
      | cons y ys =>
        have e := h2.length_le
        have hy : ys = [] := by
          cases ys with
          | nil => rfl
          | cons _ _ => simp at e
        subst hy
        have : y = x := by simpa using h2.subset (List.mem_cons_self (a := y) (l := []))
        subst this
        exact .inr ⟨l1, (ih _).mpr h1, rfl⟩
/-- the frame of a table and the couples left out -/
def frOf (T : Tb) (left : List (Int × Int)) : Fr := ⟨T.1, T.2.filter fun c => !decide (c ∈ left), (cpl T.1).filter fun c => !decide (c ∈ T.2) && !decide (c ∈ left)⟩
theorem frOf_fine {T : Tb} (hT : T.Ok) (left : List (Int × Int)) : (frOf T left).Fine := by
  have l1 : T.2.length ≤ 36 := Nat.le_trans (by
    have := hT.nd.length_le_of_subset fun c hc => mem_cpl.mpr (hT.mem c hc)
    exact this) (cpl_len T.1 hT.n6)
  refine ⟨⟨hT.n0, hT.n6, fun c hc => hT.mem c (List.mem_filter.mp hc).1, fun c hc => mem_cpl.mp (List.mem_filter.mp hc).1, ?_, ?_⟩, fun c hc h => ?_, hT.nd.filter _⟩
  · exact Nat.le_trans (List.length_filter_le _ _) (by omega)
  · exact Nat.le_trans (List.length_filter_le _ _) (by have := cpl_len T.1 hT.n6; omega)
  · have := (List.mem_filter.mp h).2
    simp only [Bool.and_eq_true, Bool.not_eq_true', decide_eq_false_iff_not] at this
    exact this.1 (List.mem_filter.mp hc).1
theorem frOf_op {T : Tb} (hT : T.Ok) {left : List (Int × Int)} (hl : left.Nodup) (hs : ∀ c ∈ left, c ∈ cpl T.1) : csort left = (frOf T left).op := by
  refine csort_eq ?_ ((cpl_sorted hT.n0 hT.n6).sublist List.filter_sublist)
  refine (List.perm_ext_iff_of_nodup hl ((cpl_nodup T.1).filter _)).mpr fun c => ?_
  constructor
  · intro h
    refine mem_op.mpr ⟨mem_cpl.mp (hs c h), fun k => ?_, fun k => ?_⟩
    · have := (List.mem_filter.mp k).2
      simp [h] at this
    · have := (List.mem_filter.mp k).2
      simp [h] at this
  · intro h
    obtain ⟨h1, h2, h3⟩ := mem_op.mp h
    by_cases hc : c ∈ left
    · exact hc
    · exfalso
      by_cases ht : c ∈ T.2
      · exact h2 (List.mem_filter.mpr ⟨ht, by simp [hc]⟩)
      · exact h3 (List.mem_filter.mpr ⟨mem_cpl.mpr h1, by simp [ht, hc]⟩)
theorem fill_tab {F : Fr} (hF : F.Fine) {row : List (Int × Int)} (hr : row.Sublist F.op) : F.fill (F.tab row) = true := by
  unfold Fr.fill
  rw [Bool.and_eq_true, Bool.and_eq_true, decide_eq_true_eq, Bool.not_eq_true', List.any_eq_false, List.all_eq_true]
  refine ⟨rfl, fun c hc k => ?_, fun c hc => decide_eq_true (mem_tab.mpr (.inl hc))⟩
  rcases mem_tab.mp (of_decide_eq_true k) with h | h
  · exact hF.apart c h hc
  · exact (mem_op.mp (hr.subset h)).2.2 hc
theorem lot_isLot {F : Fr} {l : List Int} (h : l ∈ F.lots) : F.isLot l = true := by
  unfold Fr.isLot Tb.isLot
  rw [Bool.and_eq_true, decide_eq_true_eq, List.all_eq_true]
  refine ⟨(rngI_lt 0 F.n).sublist (mem_lots.mp h), fun x hx => ?_⟩
  have := lot_in h x hx
  simp [this.1, this.2]
def Fr.tabs (F : Fr) : List Tb := (subs F.op).map F.tab
theorem mem_tabs {F : Fr} {t : Tb} : t ∈ F.tabs ↔ ∃ row : List (Int × Int), row.Sublist F.op ∧ F.tab row = t := by
  unfold Fr.tabs
  rw [List.mem_map]
  constructor
  · rintro ⟨r, h, e⟩; exact ⟨r, (mem_subs _ _).mp h, e⟩
  · rintro ⟨r, h, e⟩; exact ⟨r, (mem_subs _ _).mpr h, e⟩
theorem any_parts {F : Fr} (hF : F.Fine) {l : List Int} (hl : l ∈ F.lots) : (F.tabs.any fun t => t.parts l) = F.good l := by
  rw [Bool.eq_iff_iff, List.any_eq_true]
  constructor
  · rintro ⟨t, ht, hp⟩
    obtain ⟨row, hr, rfl⟩ := mem_tabs.mp ht
    exact good_of hF hr hl hp
  · intro h
    exact ⟨_, mem_tabs.mpr ⟨F.inn l, List.filter_sublist, rfl⟩, inn_parts hF hl h⟩
theorem rep_true {α : Type} (xs : List α) (d : D) : (List.replicate xs.length [d]).flatten = xs.map fun _ => d := by
  induction xs with
  | nil => rfl
  | cons x xs ih => rw [List.length_cons, List.replicate_succ, List.flatten_cons, ih]; rfl
theorem ins_mem {F : Fr} {l : List Int} {c : Int × Int} : c ∈ F.ins l ↔ c ∈ cpl F.n ∧ c.1 ∈ l ∧ c.2 ∈ l := by
  unfold Fr.ins
  rw [List.mem_filter]
  simp
theorem mem_by {F : Fr} {l : List Int} {c : Int × Int} : c ∈ (F.by_ l).2 ↔ c ∈ F.kn ∨ (c ∈ cpl F.n ∧ c.1 ∈ l ∧ c.2 ∈ l) := by
  unfold Fr.by_
  rw [mem_csort, mem_addCs, List.mem_append, ins_mem]
  simp
theorem by_ok {F : Fr} (hF : F.Fine) (l : List Int) : (F.by_ l).Ok := by
  refine ⟨hF.ok.n0, hF.ok.n6, ?_, fun c hc => ?_⟩
  · exact (csort_perm _).nodup_iff.mpr (addCs_nodup List.nodup_nil)
  · rcases mem_by.mp hc with h | h
    · exact hF.ok.kn c h
    · exact mem_cpl.mp h.1
theorem by_fill {F : Fr} (hF : F.Fine) {l : List Int} (hg : F.good l = true) : F.fill (F.by_ l) = true := by
  obtain ⟨g1, g2⟩ := good_iff.mp hg
  unfold Fr.fill
  rw [Bool.and_eq_true, Bool.and_eq_true, decide_eq_true_eq, Bool.not_eq_true', List.any_eq_false, List.all_eq_true]
  refine ⟨rfl, fun c hc k => ?_, fun c hc => decide_eq_true (mem_by.mpr (.inl hc))⟩
  rcases mem_by.mp (of_decide_eq_true k) with h | h
  · exact hF.apart c h hc
  · exact g1 c hc h.2
theorem by_parts {F : Fr} (hF : F.Fine) {l : List Int} (hl : l ∈ F.lots) (hg : F.good l = true) : (F.by_ l).parts l = true := by
  obtain ⟨g1, g2⟩ := good_iff.mp hg
  refine (parts_iff (T := F.by_ l) (lot_in hl) (by_ok hF l)).mpr fun c hc => ⟨fun k => mem_by.mpr (.inr ⟨hc, k⟩), fun k hm => ?_⟩
  rcases mem_by.mp hm with h | h
  · exact (g2 c h).elim k.1 k.2
  · exact k.1 h.2.1
theorem head_mem {xs : List (List Int)} (h : xs ≠ []) : xs.headD [] ∈ xs := by
  cases xs with
  | nil => exact absurd rfl h
  | cons x xs => exact List.mem_cons_self
theorem goodT {F : Fr} (hF : F.Fine) (t : Tb) (ht : t ∈ F.tabs) : F__law_partings eps0 [enc t] = W.pure (.lst ((F.lots.filter t.parts).map enc)) := by
  obtain ⟨row, hr, rfl⟩ := mem_tabs.mp ht
  exact law_partings (F.tab row) (tab_ok hF hr)
theorem at_rng {n x : Int} (h0 : 0 ≤ x) (h1 : x < n) (f : Int → D) : atI ((rngI 0 n).map f) x = some (f x) := by
  rw [atI_nn _ h0, List.getElem?_map]
  have : (rngI 0 n)[x.toNat]? = some x := by
    unfold rngI
    rw [List.getElem?_map, List.getElem?_range (by omega)]
    show some (0 + ((x.toNat : Nat) : Int)) = some x
    congr 1
    omega
  rw [this]
  rfl
theorem in_bls {α : Type} (xs : List α) (f : α → Bool) (b : Bool) : D.in (.bl b) (.lst (xs.map fun x => .bl (f x))) = W.pure (.bl (decide (b ∈ xs.map f))) := by
  have h := D.in_lst b (xs.map f)
  rw [List.map_map] at h
  exact h
def Fr.goodTabs (F : Fr) : List Tb := F.tabs.filter fun t => F.lots.any t.parts
theorem mem_goodTabs {F : Fr} {t : Tb} : t ∈ F.goodTabs ↔ t ∈ F.tabs ∧ ∃ l ∈ F.lots, t.parts l = true := by
  unfold Fr.goodTabs
  rw [List.mem_filter, List.any_eq_true]
theorem sure_a {F : Fr} (hF : F.Fine) {c : Int × Int} (hc : c ∈ F.op) : decide (F.goodTabs.filter (fun t => !decide (c ∈ t.2)) = []) = decide ((F.add false c).goods = []) := by
  have h : (F.addA c).goods ≠ [] ↔ F.goodTabs.filter (fun t => !decide (c ∈ t.2)) ≠ [] := by
    rw [addA_ne hF hc, ne_nil_iff]
    constructor
    · rintro ⟨row, hr, hp, hn⟩
      exact ⟨F.tab row, List.mem_filter.mpr ⟨mem_goodTabs.mpr ⟨mem_tabs.mpr ⟨row, hr, rfl⟩, hp⟩, by simp [hn]⟩⟩
    · rintro ⟨t, ht⟩
      obtain ⟨h1, h2⟩ := List.mem_filter.mp ht
      obtain ⟨h3, h4⟩ := mem_goodTabs.mp h1
      obtain ⟨row, hr, rfl⟩ := mem_tabs.mp h3
      exact ⟨row, hr, h4, by simpa using h2⟩
  rw [Bool.eq_iff_iff, decide_eq_true_eq, decide_eq_true_eq]
  show _ ↔ (F.addA c).goods = []
  exact ⟨fun k => Classical.byContradiction fun q => (h.mp q) k, fun k => Classical.byContradiction fun q => (h.mpr q) k⟩
theorem sure_k {F : Fr} (hF : F.Fine) {c : Int × Int} (hc : c ∈ F.op) : decide (F.goodTabs.filter (fun t => decide (c ∈ t.2)) = []) = decide ((F.add true c).goods = []) := by
  have h : (F.addK c).goods ≠ [] ↔ F.goodTabs.filter (fun t => decide (c ∈ t.2)) ≠ [] := by
    rw [addK_ne hF hc, ne_nil_iff]
    constructor
    · rintro ⟨row, hr, hp, hn⟩
      exact ⟨F.tab row, List.mem_filter.mpr ⟨mem_goodTabs.mpr ⟨mem_tabs.mpr ⟨row, hr, rfl⟩, hp⟩, by simp [hn]⟩⟩
    · rintro ⟨t, ht⟩
      obtain ⟨h1, h2⟩ := List.mem_filter.mp ht
      obtain ⟨h3, h4⟩ := mem_goodTabs.mp h1
      obtain ⟨row, hr, rfl⟩ := mem_tabs.mp h3
      exact ⟨row, hr, h4, by simpa using h2⟩
  rw [Bool.eq_iff_iff, decide_eq_true_eq, decide_eq_true_eq]
  show _ ↔ (F.addK c).goods = []
  exact ⟨fun k => Classical.byContradiction fun q => (h.mp q) k, fun k => Classical.byContradiction fun q => (h.mpr q) k⟩
def sideS (F : Fr) (one : Int) : Str := if (F.goods.all fun l => decide (one ∈ l)) = true then "member" else if (F.goods.any fun l => decide (one ∈ l)) = true then "either" else "guest"
theorem side_eq {F : Fr} (hne : F.goods ≠ []) (one : Int) : (if decide (true ∈ F.goods.map fun l => decide (one ∈ l)) = true then (if decide (false ∈ F.goods.map fun l => decide (one ∈ l)) = true then W.pure (D.str (Str.ofString "either")) else if decide (true ∈ F.goods.map fun l => decide (one ∈ l)) = true then W.pure (D.str (Str.ofString "member")) else W.pure (D.str (Str.ofString "guest")))
    else if decide (true ∈ F.goods.map fun l => decide (one ∈ l)) = true then W.pure (D.str (Str.ofString "member")) else W.pure (D.str (Str.ofString "guest"))) = W.pure (D.str (sideS F one)) := by
  have t1 : decide (true ∈ F.goods.map fun l => decide (one ∈ l)) = F.goods.any fun l => decide (one ∈ l) := by
    rw [Bool.eq_iff_iff, decide_eq_true_eq, List.mem_map, List.any_eq_true]
  have f1 : decide (false ∈ F.goods.map fun l => decide (one ∈ l)) = !F.goods.all fun l => decide (one ∈ l) := by
    rw [Bool.eq_iff_iff, decide_eq_true_eq, List.mem_map, Bool.not_eq_true', List.all_eq_false]
    constructor
    · rintro ⟨l, h1, h2⟩; exact ⟨l, h1, by rw [h2]; simp⟩
    · rintro ⟨l, h1, h2⟩; exact ⟨l, h1, by simpa using h2⟩
  rw [t1, f1]
  unfold sideS
  have hh : (F.goods.all fun l => decide (one ∈ l)) = true → (F.goods.any fun l => decide (one ∈ l)) = true := fun h => by
    obtain ⟨l, hl⟩ := List.exists_mem_of_ne_nil _ hne
    exact List.any_eq_true.mpr ⟨l, hl, List.all_eq_true.mp h l hl⟩
  cases ha : (F.goods.all fun l => decide (one ∈ l)) with
  | true => rw [hh ha]; rfl
  | false => cases (F.goods.any fun l => decide (one ∈ l)) <;> rfl
theorem alk_couples (xs : List (Int × Int)) : (D.tup (xs.map enc)).alk = true := Alk.alk xs
theorem nodes_couples (xs : List (Int × Int)) : (D.tup (xs.map enc)).nodes ≤ 1 + xs.length * 3 := by
  have := D.nodesL_map xs enc 3 fun x _ => by rw [enc_pair]; simp only [D.nodes, D.nodesL, enc_int]; omega
  simp only [D.nodes]
  omega
theorem alk_bls {α : Type} (xs : List α) (f : α → Bool) : (D.lst (xs.map fun x => .bl (f x))).alk = true := by
  simp only [D.alk]
  exact D.alkL_of fun x hx => by
    obtain ⟨y, _, rfl⟩ := List.mem_map.mp hx
    rfl
theorem nodes_bls {α : Type} (xs : List α) (f : α → Bool) : (D.lst (xs.map fun x => .bl (f x))).nodes ≤ 1 + xs.length * 1 := by
  have := D.nodesL_map xs (fun x => D.bl (f x)) 1 fun x _ => by simp only [D.nodes]; omega
  simp only [D.nodes]
  omega
theorem alk_sides (F : Fr) (xs : List Int) : (D.lst (xs.map fun x => .str (sideS F x))).alk = true := by
  simp only [D.alk]
  exact D.alkL_of fun x hx => by
    obtain ⟨y, _, rfl⟩ := List.mem_map.mp hx
    unfold sideS
    split
    · exact Alk.alk (wd "member")
    · split
      · exact Alk.alk (wd "either")
      · exact Alk.alk (wd "guest")
theorem nodes_sides (F : Fr) (xs : List Int) : (D.lst (xs.map fun x => .str (sideS F x))).nodes ≤ 1 + xs.length * 1 := by
  have := D.nodesL_map xs (fun x => D.str (sideS F x)) 1 fun x _ => by simp only [D.nodes]; omega
  simp only [D.nodes]
  omega
theorem first_ok {F : Fr} (a b : Bool) (h1 : F.op.length ≤ 5) (h2 : F.lots.length ≤ 64) (h3 : F.tabs.length ≤ 32) : (D.lst [D.tup (F.op.map enc), D.lst (F.lots.map fun l => .bl (F.good l)), .bl a, .bl b, D.lst (F.tabs.map fun _ => .bl true)]).alk = true ∧ (D.lst [D.tup (F.op.map enc), D.lst (F.lots.map fun l => .bl (F.good l)), .bl a, .bl b, D.lst (F.tabs.map fun _ => .bl true)]).nodes ≤ 100000 := by
  have a1 := alk_couples F.op
  have a2 := alk_bls F.lots fun l => F.good l
  have a3 := alk_bls F.tabs fun _ => true
  have n1 := nodes_couples F.op
  have n2 := nodes_bls F.lots fun l => F.good l
  have n3 := nodes_bls F.tabs fun _ => true
  constructor
  · have : ∀ d e f : D, d.alk = true → e.alk = true → f.alk = true → (D.lst [d, e, .bl a, .bl b, f]).alk = true := fun d e f h1 h2 h3 => by simp only [D.alk, D.alkL, h1, h2, h3, Bool.and_self]
    exact this _ _ _ a1 a2 a3
  · have : ∀ d e f : D, d.nodes ≤ 100 → e.nodes ≤ 100 → f.nodes ≤ 100 → (D.lst [d, e, .bl a, .bl b, f]).nodes ≤ 100000 := fun d e f h1 h2 h3 => by simp only [D.nodes, D.nodesL]; omega
    exact this _ _ _ (by omega) (by omega) (by omega)
theorem last_ok {F : Fr} (xs : List Int) (k : Int) (d : D) (u v : List (Int × Int)) (hx : xs.length ≤ 6) (hd : d.alk = true) (hdn : d.nodes ≤ 100) (hu : u.length ≤ 5) (hv : v.length ≤ 5) :
    (D.lst [D.lst (xs.map fun x => .str (sideS F x)), .int k, d, D.tup (u.map enc), D.tup (v.map enc)]).alk = true ∧ (D.lst [D.lst (xs.map fun x => .str (sideS F x)), .int k, d, D.tup (u.map enc), D.tup (v.map enc)]).nodes ≤ 100000 := by
  have a1 := alk_sides F xs
  have a2 := alk_couples u
  have a3 := alk_couples v
  have n1 := nodes_sides F xs
  have n2 := nodes_couples u
  have n3 := nodes_couples v
  constructor
  · have : ∀ e f g : D, e.alk = true → f.alk = true → g.alk = true → (D.lst [e, .int k, d, f, g]).alk = true := fun e f g h1 h2 h3 => by simp only [D.alk, D.alkL, h1, h2, h3, hd, Bool.and_self]
    exact this _ _ _ a1 a2 a3
  · have : ∀ e f g : D, e.nodes ≤ 100 → f.nodes ≤ 100 → g.nodes ≤ 100 → (D.lst [e, .int k, d, f, g]).nodes ≤ 100000 := fun e f g h1 h2 h3 => by simp only [D.nodes, D.nodesL]; omega
    exact this _ _ _ (by omega) (by omega) (by omega)
theorem law_true : (F_law eps0 [.scr]).run fun d => d = .bl true := by
  unfold F_law defW B_law
  array_get_dec
  rw [show F__law_bag eps0 [.scr] = W.pure .bag from rfl]
  array_get_dec
  rw [D.rng1_int ⟨by decide, by decide⟩]
  array_get_dec
  refine for_run (e := enc) (fun done ρ => ∃ o2 o3 o4 o5 o6 o7 o8 o9 o10 o11 o12 o13 o14 o15 o16 o17 o18 o19 o20 o21 o22 o23 o24 o25 o26 o27 o28 o29 : Option D, ρ = [some .scr, some .bag, o2, o3, o4, o5, o6, o7, o8, o9, o10, o11, o12, o13, o14, o15, o16, o17, o18, o19, o20, o21, o22, o23, o24, o25, o26, o27, o28, o29]) (rngI 0 4) _ _ ⟨none, none, none, none, none, none, none, none, none, none, none, none, none, none, none, none, none, none, none, none, none, none, none, none, none, none, none, none, rfl⟩ (fun done x rest ρ hx ⟨o2, o3, o4, o5, o6, o7, o8, o9, o10, o11, o12, o13, o14, o15, o16, o17, o18, o19, o20, o21, o22, o23, o24, o25, o26, o27, o28, o29, hρ⟩ => by
    subst hρ
    clear hx
    array_get_dec
    refine law_table fun T hT h1 => ?_
    have h0 := hT.n0
    have h6 := hT.n6
    array_get_dec
    rw [ix_n]
    array_get_dec
    rw [law_couples _ h0 h6]
    array_get_dec
    have l36 := cpl_len T.1 h6
    refine law_mixed (cpl T.1) (by omega) (by decide) fun ys hp => ?_
    array_get_dec
    refine take_run (by decide) (by decide) fun k hk0 hk6 => ?_
    array_get_dec
    obtain ⟨left, hleft⟩ : ∃ left, left = ys.take k.toNat := ⟨_, rfl⟩
    have ecut : cutL (ys.map (enc (α := Int × Int))) none (some k) = left.map enc := by
      rw [hleft, List.map_take, show k = ((k.toNat : Nat) : Int) by omega, cutL_take]
      rw [show ((k.toNat : Nat) : Int).toNat = k.toNat by omega]
    have hl5 : left.length ≤ 5 := by rw [hleft, List.length_take]; omega
    have hln : left.Nodup := by rw [hleft]; exact (hp.nodup_iff.mpr (cpl_nodup T.1)).sublist (List.take_sublist _ _)
    have hls : ∀ c ∈ left, c ∈ cpl T.1 := fun c hc => hp.mem_iff.mp (by rw [hleft] at hc; exact (List.take_sublist _ _).subset hc)
    rw [ecut]
    clear hleft ecut
    have hop := frOf_op hT hln hls
    have hF := frOf_fine hT left
    obtain ⟨F, eF⟩ : ∃ F, F = frOf T left := ⟨_, rfl⟩
    rw [← eF] at hop hF
    have eFn : F.n = T.1 := by rw [eF]; rfl
    rw [lc_nm T.2 enc (fun c => !decide (c ∈ left)) enc rfl rfl (fun c _ => by
      array_get_dec
      rw [D.notIn_lst]
      array_get_dec) (fun c _ _ => rfl)]
    array_get_dec
    rw [lc_nm (cpl T.1) enc (fun c => !decide (c ∈ T.2) && !decide (c ∈ left)) enc (by
      array_get_dec
      rw [law_couples _ h0 h6]
      array_get_dec) rfl (fun c _ => by
      array_get_dec
      rw [show T.e.ix (.int 1) = W.pure (.tup (T.2.map enc)) from rfl]
      array_get_dec
      rw [D.notIn_tup, D.notIn_lst]
      array_get_dec) (fun c _ _ => rfl)]
    array_get_dec
    rw [show (List.filter (fun c => !decide (c ∈ left)) T.2) = F.kn by rw [eF]; rfl, show (List.filter (fun c => !decide (c ∈ T.2) && !decide (c ∈ left)) (cpl T.1)) = F.ap by rw [eF]; rfl, ← eFn]
    rw [show D.tup [D.int F.n, D.tup (List.map enc F.kn), D.tup (List.map enc F.ap)] = F.e from rfl]
    have esl : D.sorted [D.lst (List.map enc left)] = W.pure (.lst (F.op.map enc)) := by
      rw [D.sorted_lst left (size_le (by omega)), hop]
    rw [esl]
    array_get_dec
    have lop : F.op.length ≤ 5 := by rw [← hop, csort_length]; exact hl5
    have lsub : ∀ xs : List (Int × Int), xs.length ≤ 5 → (subs xs).length ≤ 32 := fun xs hx => by
      rw [subs_len]
      exact Nat.pow_le_pow_right (n := 2) (by decide) hx
    have lkn : F.kn.length ≤ 36 := by
      have := hF.nd.length_le_of_subset fun c hc => mem_cpl.mpr (hF.ok.kn c hc)
      rw [eFn] at this
      omega
    have lap : F.ap.length ≤ 36 := by
      rw [eF]
      exact Nat.le_trans (List.length_filter_le _ _) l36
    have lrow : ∀ row ∈ subs F.op, row.length ≤ 5 := fun row hr => Nat.le_trans ((mem_subs _ _).mp hr).length_le lop
    refine for_run (e := enc) (fun done ρ => ∃ p10 p25, ρ = [some D.scr, some D.bag, some (enc x), some T.e, some (D.int F.n), some (D.lst (List.map enc left)), o6, some (D.tup (List.map enc F.kn)), some (D.tup (List.map enc F.ap)), some (D.lst ((subs done).map enc)), p10, o11, o12, o13, o14, o15, o16, o17, o18, o19, o20, o21, o22, o23, some F.e, p25, o26, o27, o28, o29]) F.op _ _ ⟨o10, o25, rfl⟩ (fun done c rest ρ hx ⟨p10, p25, hρ⟩ => by
      subst hρ
      have hd : done.length + 1 ≤ 5 := by
        have e := congrArg List.length hx
        rw [List.length_append, List.length_cons] at e
        omega
      have hs := lsub done (by omega)
      array_get_dec
      rw [lc_map (subs done) enc (fun row => enc (row ++ [c])) rfl rfl (fun row hr => by
        have hl := ((mem_subs _ _).mp hr).length_le
        array_get_dec
        rw [enc_list]
        array_get_dec
        rw [W.need_size (by rw [List.length_map]; omega), enc_list, List.map_append]
        rfl)]
      array_get_dec
      refine ⟨size_le (by rw [List.length_map, List.length_map]; omega), ⟨some (enc c), p25, ?_⟩⟩
      rw [subs_snoc, List.map_append, List.map_map]
      rfl) (fun ρ ⟨p10, p25, hρ⟩ => ?_)
    subst hρ
    array_get_dec
    rw [lc_map (subs F.op) enc (fun row => enc (F.tab row)) rfl rfl (fun row hr => by
      have hl := lrow row hr
      array_get_dec
      rw [enc_list]
      array_get_dec
      rw [W.need_size (by rw [List.length_map, List.length_map]; omega), ← List.map_append, D.sorted_tup (F.kn ++ row) (size_le (by rw [List.length_append]; omega))]
      array_get_dec
      rfl)]
    array_get_dec
    have n0 := hF.ok.n0
    have n6 := hF.ok.n6
    have h64 : F.lots.length ≤ 64 := by
      unfold Fr.lots
      rw [csort_length]
      exact lots_64 (by rw [rngI_length]; omega)
    have elots : F__law_lots eps0 [.int F.n] = W.pure (.lst (F.lots.map enc)) := law_lots F.n n0 n6
    rw [lc_nm F.lots enc F.good enc (by
      array_get_dec
      rw [elots]
      array_get_dec) rfl (fun l _ => by
      array_get_dec
      rw [lc_tp F.ap (fun c => enc c.1) (fun c => enc c.2) (fun c => decide (c.1 ∈ l) && decide (c.2 ∈ l)) (fun _ => enc (1 : Int)) rfl rfl (fun c _ => by
        array_get_dec
        rw [enc_list, D.in_tup, D.in_tup]
        array_get_dec) (fun c _ _ => rfl)]
      array_get_dec
      rw [lc_tp F.kn (fun c => enc c.1) (fun c => enc c.2) (fun c => !decide (c.1 ∈ l) && !decide (c.2 ∈ l)) (fun _ => enc (1 : Int)) rfl rfl (fun c _ => by
        array_get_dec
        rw [enc_list, D.notIn_tup, D.notIn_tup]
        array_get_dec) (fun c _ _ => rfl)]
      array_get_dec
      have f1 := List.length_filter_le (fun c => decide (c.1 ∈ l) && decide (c.2 ∈ l)) F.ap
      have f2 := List.length_filter_le (fun c => !decide (c.1 ∈ l) && !decide (c.2 ∈ l)) F.kn
      rw [W.need_size (by rw [List.length_map, List.length_map]; omega), ← List.map_append, eq_ones]
      array_get_dec
      congr 1
      rw [Bool.eq_iff_iff, decide_eq_true_eq, List.append_eq_nil_iff, List.filter_eq_nil_iff, List.filter_eq_nil_iff]
      unfold Fr.good
      rw [Bool.and_eq_true, Bool.not_eq_true', Bool.not_eq_true', List.any_eq_false, List.any_eq_false]) (fun l _ _ => rfl)]
    array_get_dec
    rw [show F.lots.filter F.good = F.goods from rfl]
    have ltab : F.tabs.length ≤ 32 := by unfold Fr.tabs; rw [List.length_map]; exact lsub _ lop
    rw [show List.map (fun row => (enc (F.tab row) : D)) (subs F.op) = F.tabs.map enc from by unfold Fr.tabs; rw [List.map_map]; rfl]
    rw [lc_nm F.lots enc F.good enc (by
      array_get_dec
      rw [elots]
      array_get_dec) rfl (fun l hl => by
      array_get_dec
      rw [lc_nm F.tabs enc (fun t => t.parts l) enc rfl rfl (fun t ht => by
        obtain ⟨row, hr, rfl⟩ := mem_tabs.mp ht
        array_get_dec
        rw [show (enc (F.tab row) : D) = Tb.e (F.tab row) from rfl, law_parts (F.tab row) (tab_ok hF hr) l (lot_in hl)]
        array_get_dec) (fun _ _ _ => rfl)]
      array_get_dec
      rw [show D.lst [] = D.lst (([] : List Tb).map enc) from rfl, D.ne_lst, P98.fil_ne, any_parts hF hl]
      array_get_dec) (fun l _ _ => rfl)]
    array_get_dec
    rw [show F.lots.filter F.good = F.goods from rfl]
    refine a_swing F hF.ok (fun hne => ?_) (fun one r s b0 b1 hnil w1 w2 lr ls => ?_)
    · array_get_dec
      rw [some_lot F hF.ok, if_neg hne]
      array_get_dec
      rw [open_couples F hF.ok]
      array_get_dec
      rw [lc_map F.lots enc (fun l => .bl (F.good l)) (by
        array_get_dec
        rw [elots]
        array_get_dec) rfl (fun l hl => by
        array_get_dec
        rw [does_part, lot_isLot hl]
        array_get_dec)]
      array_get_dec
      rw [show D.is .non .non = W.pure (.bl true) from rfl]
      array_get_dec
      rw [show ∀ l : List Int, D.is (enc l) .non = W.pure (.bl false) from fun _ => rfl]
      array_get_dec
      rw [lc_map F.tabs enc (fun _ => .bl true) rfl rfl (fun t ht => by
        obtain ⟨row, hr, rfl⟩ := mem_tabs.mp ht
        array_get_dec
        rw [show (enc (F.tab row) : D) = Tb.e (F.tab row) from rfl, fills, fill_tab hF hr])]
      array_get_dec
      rw [esl]
      array_get_dec
      rw [lc_map F.lots enc (fun l => .bl (F.good l)) (by
        array_get_dec
        rw [elots]
        array_get_dec) rfl (fun l hl => by
        array_get_dec
        rw [D.in_lst]
        congr 2
        rw [Bool.eq_iff_iff, decide_eq_true_eq, mem_goods]
        exact ⟨fun h => h.2, fun h => ⟨hl, h⟩⟩)]
      array_get_dec
      rw [show D.lst [] = D.lst (([] : List (List Int)).map enc) from rfl, D.ne_lst, D.eq_lst, decide_eq_false hne, Bool.not_false]
      array_get_dec
      rw [D.mul_lst, W.need_bind ⟨by rw [List.length_map]; omega, by rw [List.length_map]; omega, by rw [List.length_map]; exact size_le (by simp only [List.length_cons, List.length_nil, Int.toNat_natCast]; omega)⟩]
      array_get_dec
      rw [List.length_map, Int.toNat_natCast, rep_true]
      rw [show (enc F.op : D) = .tup (F.op.map enc) from rfl]
      refine law_alike _ (first_ok true false lop h64 ltab).1 (first_ok true false lop h64 ltab).2 ?_
      array_get_dec
      refine ⟨rfl, ?_⟩
      have hm := head_mem hne
      obtain ⟨hml, hmg⟩ := mem_goods.mp hm
      rw [D.ne_lst]
      array_get_dec
      simp only [decide_true, Bool.not_true, Bool.false_eq_true, if_false]
      rw [D.notIn_lst]
      array_get_dec
      rw [decide_eq_true hm, Bool.not_true, if_neg (by simp), filled_by F hF.ok _ (lot_isLot hml) hmg]
      array_get_dec
      rw [fills, by_fill hF hmg]
      array_get_dec
      rw [show D.isnot (.bl true) (.bl true) = W.pure (.bl false) from rfl]
      array_get_dec
      rw [law_parts (F.by_ _) (by_ok hF _) _ (lot_in hml), by_parts hF hml hmg]
      array_get_dec
      rw [lc_nm F.tabs enc (fun t => F.lots.any t.parts) enc rfl rfl (fun t ht => by
        array_get_dec
        rw [goodT hF t ht]
        array_get_dec
        rw [show D.lst [] = D.lst (([] : List (List Int)).map enc) from rfl, D.ne_lst, P98.fil_ne]
        array_get_dec) (fun _ _ _ => rfl)]
      array_get_dec
      rw [show F.tabs.filter (fun t => F.lots.any t.parts) = F.goodTabs from rfl]
      rw [lc_map (rngI 0 F.n) enc (fun one => .lst (F.goods.map fun l => .bl (decide (one ∈ l)))) (by
        array_get_dec
        rw [D.rng1_int ⟨by omega, by omega⟩]) rfl (fun one _ => by
        array_get_dec
        rw [lc_map F.goods enc (fun l => .bl (decide (one ∈ l))) rfl rfl (fun l _ => by
          array_get_dec
          rw [enc_list, D.in_tup])])]
      array_get_dec
      rw [D.rng1_int ⟨by omega, by omega⟩]
      array_get_dec
      refine for_run (e := enc) (fun (done : List Int) ρ => ∃ p6 p20, ρ = [some D.scr, some D.bag, some (enc x), some T.e, some (D.int F.n), some (D.lst (List.map enc left)), p6, some (D.tup (List.map enc F.kn)), some (D.tup (List.map enc F.ap)), some (D.lst (List.map enc (subs F.op))), p10, some (D.lst (List.map enc F.tabs)), some (enc (F.goods.headD [])), some (D.lst (List.map enc F.goods)), some (D.lst (List.map enc F.goods)), some D.non, some (D.lst [D.tup (List.map enc F.op), D.lst (List.map (fun l => D.bl (F.good l)) F.lots), D.bl true, D.bl false, D.lst (List.map (fun x => D.bl true) F.tabs)]), some (D.lst (List.map enc F.goodTabs)), some (D.lst (List.map (fun one => D.lst (List.map (fun l => D.bl (decide (one ∈ l))) F.goods)) (rngI 0 F.n))), some (D.lst ((done.map F.mark).map enc)), p20, o21, o22, o23, some F.e, p25, o26, o27, o28, o29]) (rngI 0 F.n) _ _ ⟨o6, o20, rfl⟩ (fun done y rest ρ hx ⟨p6, p20, hρ⟩ => by
        subst hρ
        have hy := mem_rngI.mp (show y ∈ rngI 0 F.n by rw [← hx]; simp)
        have hd : done.length ≤ 6 := by
          have e := congrArg List.length hx
          rw [List.length_append, List.length_cons, rngI_length] at e
          omega
        array_get_dec
        rw [lc_nm F.goods (fun l => .bl (decide (y ∈ l))) (fun l => decide (y ∈ l)) (fun _ => enc (1 : Int)) (by
          array_get_dec
          rw [enc_int]
          array_get_dec
          rw [at_rng hy.1 hy.2]
          array_get_dec) rfl (fun l _ => by array_get_dec) (fun l _ _ => rfl)]
        array_get_dec
        simp only [List.length_map]
        refine ⟨Nat.lt_of_le_of_lt (show done.length ≤ 6 from hd) (by unfold sizeLine; decide), some (enc y), some (.int (F.size y)), ?_⟩
        rw [maxI, List.map_append, List.map_append]
        rfl) (fun ρ ⟨p6, p20, hρ⟩ => ?_)
      subst hρ
      array_get_dec
      rw [lc_map (rngI 0 F.n) (fun one => D.lst (List.map (fun l => D.bl (decide (one ∈ l))) F.goods)) (fun one => .str (sideS F one)) rfl rfl (fun one _ => by
        array_get_dec
        rw [in_bls, in_bls]
        array_get_dec
        exact side_eq hne one)]
      array_get_dec
      rw [lc_map (rngI 0 F.n) enc (fun one => .str (sideS F one)) (by
        array_get_dec
        rw [D.rng1_int ⟨by omega, by omega⟩]) rfl (fun one ho => by
        have ho := mem_rngI.mp ho
        array_get_dec
        rw [enc_int, sure_side F hF.ok one ho.1 ho.2, if_neg hne]
        rfl)]
      array_get_dec
      rw [lots_many F hF.ok, if_neg hne]
      array_get_dec
      rw [best_person F hF.ok (by omega), if_neg hne]
      array_get_dec
      rw [surely_known F hF.ok (by omega) (by omega), if_neg hne]
      array_get_dec
      rw [sure_strangers F hF.ok (by omega) (by omega), if_neg hne]
      array_get_dec
      rw [lc_nm F.op enc (fun c => decide ((F.add false c).goods = [])) enc (by
        array_get_dec
        rw [esl]
        array_get_dec) rfl (fun c hc => by
        array_get_dec
        rw [lc_nm F.goodTabs enc (fun t => !decide (c ∈ t.2)) enc rfl rfl (fun t _ => by
          array_get_dec
          rw [show (enc t : D).ix (.int 1) = W.pure (.tup (t.2.map enc)) from rfl]
          array_get_dec
          rw [D.notIn_tup]
          array_get_dec) (fun _ _ _ => rfl)]
        array_get_dec
        rw [show D.lst [] = D.lst (([] : List Tb).map enc) from rfl, D.eq_lst, sure_a hF hc]
        array_get_dec) (fun _ _ _ => rfl)]
      array_get_dec
      rw [lc_nm F.op enc (fun c => decide ((F.add true c).goods = [])) enc (by
        array_get_dec
        rw [esl]
        array_get_dec) rfl (fun c hc => by
        array_get_dec
        rw [lc_nm F.goodTabs enc (fun t => decide (c ∈ t.2)) enc rfl rfl (fun t _ => by
          array_get_dec
          rw [show (enc t : D).ix (.int 1) = W.pure (.tup (t.2.map enc)) from rfl]
          array_get_dec
          rw [D.in_tup]
          array_get_dec) (fun _ _ _ => rfl)]
        array_get_dec
        rw [show D.lst [] = D.lst (([] : List Tb).map enc) from rfl, D.eq_lst, sure_k hF hc]
        array_get_dec) (fun _ _ _ => rfl)]
      array_get_dec
      rw [List.length_map, show (enc (F.sure false) : D) = D.tup (List.map enc (List.filter (fun c => decide ((F.add false c).goods = [])) F.op)) from rfl, show (enc (F.sure true) : D) = D.tup (List.map enc (List.filter (fun c => decide ((F.add true c).goods = [])) F.op)) from rfl]
      have hv : (rngI 0 F.n).length ≤ 6 := by rw [rngI_length]; omega
      have hpos := List.length_pos_iff.mpr hne
      have u1 : (List.filter (fun c => decide ((F.add false c).goods = [])) F.op).length ≤ 5 := Nat.le_trans (List.length_filter_le _ _) lop
      have u2 : (List.filter (fun c => decide ((F.add true c).goods = [])) F.op).length ≤ 5 := Nat.le_trans (List.length_filter_le _ _) lop
      have hmn : (rngI 0 F.n).map F.mark ≠ [] := by
        intro e
        have := congrArg List.length e
        rw [List.length_map, rngI_length, List.length_nil] at this
        omega
      have em : D.min [D.lst (List.map enc (List.map F.mark (rngI 0 F.n)))] = W.pure (enc (mnC ((rngI 0 F.n).map F.mark))) := e_minL ((rngI 0 F.n).map F.mark) hmn (by decide)
      by_cases h1' : F.goods.length = 1
      · rw [if_neg (by rw [h1']; simp), if_pos h1']
        refine law_alike _ (last_ok _ _ .non _ _ hv rfl (by simp [D.nodes]) u1 u2).1 (last_ok _ _ .non _ _ hv rfl (by simp [D.nodes]) u1 u2).2 ?_
        array_get_dec
        refine ⟨rfl, ?_⟩
        array_get_dec
        exact ⟨_, _, _, _, _, _, _, _, _, _, _, _, _, _, _, _, _, _, _, _, _, _, _, _, _, _, _, _, rfl⟩
      · rw [if_pos (by simp; omega), if_neg h1', em]
        array_get_dec
        rw [show (enc (mnC ((rngI 0 F.n).map F.mark)) : D).ix (.int 1) = W.pure (.int (mnC ((rngI 0 F.n).map F.mark)).2) from rfl]
        array_get_dec
        refine law_alike _ (last_ok _ _ (.int _) _ _ hv rfl (by simp [D.nodes]) u1 u2).1 (last_ok _ _ (.int _) _ _ hv rfl (by simp [D.nodes]) u1 u2).2 ?_
        array_get_dec
        refine ⟨rfl, ?_⟩
        array_get_dec
        exact ⟨_, _, _, _, _, _, _, _, _, _, _, _, _, _, _, _, _, _, _, _, _, _, _, _, _, _, _, _, rfl⟩
    · array_get_dec
      rw [some_lot F hF.ok, if_pos hnil]
      array_get_dec
      rw [open_couples F hF.ok]
      array_get_dec
      rw [lc_map F.lots enc (fun l => .bl (F.good l)) (by
        array_get_dec
        rw [elots]
        array_get_dec) rfl (fun l hl => by
        array_get_dec
        rw [does_part, lot_isLot hl]
        array_get_dec)]
      array_get_dec
      rw [show ∀ r s : List Int, D.is (.tup [enc r, enc s]) .non = W.pure (.bl false) from fun _ _ => rfl]
      array_get_dec
      rw [show D.is .non .non = W.pure (.bl true) from rfl]
      array_get_dec
      rw [lc_map F.tabs enc (fun _ => .bl true) rfl rfl (fun t ht => by
        obtain ⟨row, hr, rfl⟩ := mem_tabs.mp ht
        array_get_dec
        rw [show (enc (F.tab row) : D) = Tb.e (F.tab row) from rfl, fills, fill_tab hF hr])]
      array_get_dec
      rw [esl]
      array_get_dec
      rw [lc_map F.lots enc (fun l => .bl (F.good l)) (by
        array_get_dec
        rw [elots]
        array_get_dec) rfl (fun l hl => by
        array_get_dec
        rw [D.in_lst]
        congr 2
        rw [Bool.eq_iff_iff, decide_eq_true_eq, mem_goods]
        exact ⟨fun h => h.2, fun h => ⟨hl, h⟩⟩)]
      array_get_dec
      rw [show D.lst [] = D.lst (([] : List (List Int)).map enc) from rfl, D.ne_lst, D.eq_lst, decide_eq_true hnil, Bool.not_true]
      array_get_dec
      rw [D.mul_lst, W.need_bind ⟨by rw [List.length_map]; omega, by rw [List.length_map]; omega, by rw [List.length_map]; exact size_le (by simp only [List.length_cons, List.length_nil, Int.toNat_natCast]; omega)⟩]
      array_get_dec
      rw [List.length_map, Int.toNat_natCast, rep_true]
      rw [show (enc F.op : D) = .tup (F.op.map enc) from rfl]
      refine law_alike _ (first_ok false true lop h64 ltab).1 (first_ok false true lop h64 ltab).2 ?_
      array_get_dec
      refine ⟨rfl, ?_⟩
      rw [hnil, show (([] : List (List Int)).map enc : List D) = [] from rfl]
      rw [show D.ne (.lst []) (.lst []) = W.pure (.bl false) from by have := D.ne_lst ([] : List (List Int)) []; rw [decide_eq_true rfl] at this; exact this]
      array_get_dec
      rw [is_swing F hF.ok b0 b1 w1 w2 lr ls]
      array_get_dec
      rw [show D.isnot (.bl true) (.bl true) = W.pure (.bl false) from rfl]
      array_get_dec
      have g1 : ∀ ε, F_sure_side ε [F.e, .int 0] = W.raise ε (refX "frame") := fun ε => by rw [sure_side F hF.ok 0 (by omega) (by omega), if_pos hnil]
      have g2 : ∀ ε, F_lots_many ε [F.e] = W.raise ε (refX "frame") := fun ε => by rw [lots_many F hF.ok, if_pos hnil]
      have g3 : ∀ ε, F_best_person ε [F.e] = W.raise ε (refX "frame") := fun ε => by rw [best_person F hF.ok (by omega), if_pos hnil]
      have g4 : ∀ ε, F_surely_known ε [F.e] = W.raise ε (refX "frame") := fun ε => by rw [surely_known F hF.ok (by omega) (by omega), if_pos hnil]
      have hh : (heardW { told := Str.ofString "told", cls := Str.ofString "Refused", lab := Str.ofString "refused", at_ := Str.ofString "why" } fun ε => W.raise ε (refX "frame")) = W.pure (.tup [.str (Str.ofString "refused"), .str (Str.ofString "frame")]) := heard_ref _ _
      rw [show S_law.mt = [16, 19] from rfl]
      simp only [wipeE, List.foldl_cons, List.foldl_nil]
      array_get_dec
      simp only [g1, g2, g3, g4, hh]
      array_get_dec
      refine ⟨Nat.lt_of_lt_of_le (show 1 < 1000 by decide) (by unfold sizeLine; decide), Nat.lt_of_lt_of_le (show 2 < 1000 by decide) (by unfold sizeLine; decide), Nat.lt_of_lt_of_le (show 3 < 1000 by decide) (by unfold sizeLine; decide), ?_⟩
      rw [D.mul_lst, W.need_bind ⟨by decide, by decide, size_le (by decide)⟩, show (List.replicate (4 : Int).toNat [D.tup [D.str (Str.ofString "refused"), D.str (Str.ofString "frame")]]).flatten = [D.tup [D.str (Str.ofString "refused"), D.str (Str.ofString "frame")], D.tup [D.str (Str.ofString "refused"), D.str (Str.ofString "frame")], D.tup [D.str (Str.ofString "refused"), D.str (Str.ofString "frame")], D.tup [D.str (Str.ofString "refused"), D.str (Str.ofString "frame")]] from rfl]
      array_get_dec
      have a1 : (D.tup [D.str (Str.ofString "refused"), D.str (Str.ofString "frame")]).alk = true := (Alk.alk (wd "refused", wd "frame"))
      refine law_alike _ (by simp only [D.alk, D.alkL] at a1 ⊢; simp only [a1, Bool.and_self]) (by simp only [D.nodes, D.nodesL]; omega) ?_
      array_get_dec
      refine ⟨rfl, ?_⟩
      array_get_dec
      exact ⟨_, _, _, _, _, _, _, _, _, _, _, _, _, _, _, _, _, _, _, _, _, _, _, _, _, _, _, _, rfl⟩
    done) (fun ρ ⟨o2, o3, o4, o5, o6, o7, o8, o9, o10, o11, o12, o13, o14, o15, o16, o17, o18, o19, o20, o21, o22, o23, o24, o25, o26, o27, o28, o29, hρ⟩ => by
    subst hρ
    array_get_dec)
end
end P98

set_option Elab.async false
set_option linter.all false
set_option maxRecDepth 100000
set_option maxHeartbeats 0
namespace P98
open PySem PySem.Spec PyProof.Rows L2 PW
theorem kept {K : PySem.W.Frag} {mg : Str → Option Value} {tb : List (Addr × Str)} {Φ Ψ : Eps → List D → W D} (h : ∀ (ε : Eps) (ds : List D) (Q : D → Prop), (Φ ε ds).run Q → (Ψ ε ds).run Q) (vs : List V) (H : Hp) (Q : VK) (E : XK) : spW K mg tb Φ vs H Q E → spW K mg tb Ψ vs H Q E
  | ⟨ε, z, ds, ht, ok, r, k, x⟩ => ⟨ε, z, ds, ht, ok, r, h ε ds _ k, x⟩
section
variable {w : World} {K : PySem.W.Frag} {mg : Str → Option Value} {base h0 : Heap}
theorem free_all (X : K.In base) (G : base.Ns mainGlobals mg) (c : SaysY fa fn tf ex ini w h0 K) : ∀ x ∈ free, mg x = none := by
  intro x hx
  unfold free at hx
  simp only [List.mem_cons, List.not_mem_nil, or_false] at hx
  rcases hx with rfl | rfl | rfl | rfl | rfl | rfl | rfl | rfl | rfl | rfl | rfl | rfl | rfl | rfl | rfl | rfl | rfl | rfl | rfl | rfl | rfl
  · exact He.free_ok X G (c.x.t.d.fact 44 (f := .free "isinstance") rfl)
  · exact He.free_ok X G (c.x.t.d.fact 45 (f := .free "all") rfl)
  · exact He.free_ok X G (c.x.t.d.fact 46 (f := .free "zip") rfl)
  · exact He.free_ok X G (c.x.t.d.fact 47 (f := .free "range") rfl)
  · exact He.free_ok X G (c.x.t.d.fact 48 (f := .free "min") rfl)
  · exact He.free_ok X G (c.x.t.d.fact 49 (f := .free "max") rfl)
  · exact He.free_ok X G (c.x.t.d.fact 50 (f := .free "len") rfl)
  · exact He.free_ok X G (c.x.t.d.fact 51 (f := .free "tuple") rfl)
  · exact He.free_ok X G (c.x.t.d.fact 52 (f := .free "list") rfl)
  · exact He.free_ok X G (c.x.t.d.fact 53 (f := .free "sorted") rfl)
  · exact He.free_ok X G (c.x.t.d.fact 54 (f := .free "enumerate") rfl)
  · exact He.free_ok X G (c.x.t.d.fact 55 (f := .free "sum") rfl)
  · exact He.free_ok X G (c.x.t.d.fact 56 (f := .free "any") rfl)
  · exact He.free_ok X G (c.x.t.d.fact 57 (f := .free "int") rfl)
  · exact He.free_ok X G (c.x.t.d.fact 58 (f := .free "abs") rfl)
  · exact He.free_ok X G (c.x.t.d.fact 59 (f := .free "set") rfl)
  · exact He.free_ok X G (c.x.t.d.fact 60 (f := .free "dict") rfl)
  · exact He.free_ok X G (c.x.t.d.fact 61 (f := .free "str") rfl)
  · exact He.free_ok X G (c.x.t.d.fact 62 (f := .free "bool") rfl)
  · exact He.free_ok X G (c.x.t.d.fact 63 (f := .free "repr") rfl)
  · exact He.free_ok X G (c.x.t.d.fact 64 (f := .free "super") rfl)
theorem nd (c : SaysY fa fn tf ex ini w h0 K) : (tf.map fun p => (He.cT K p).2).Nodup := of_decide_eq_true (He.ba c.x.more).1
theorem con_all (X : K.In base) (G : base.Ns mainGlobals mg) (c : SaysY fa fn tf ex ini w h0 K) : ∀ x d, (x, d) ∈ cons → ∃ v u, mg x = some u ∧ RelV v u ∧ ∀ z, Rp K mg z v d := by
  intro x d hx
  unfold cons at hx
  simp only [List.mem_cons, List.not_mem_nil, or_false, Prod.mk.injEq] at hx
  rcases hx with ⟨rfl, rfl⟩ | ⟨rfl, rfl⟩ | ⟨rfl, rfl⟩ | ⟨rfl, rfl⟩ | ⟨rfl, rfl⟩
  · obtain ⟨t, e⟩ := He.str_ok X G (c.x.t.d.fact 66 (f := .str "MEMBER" "member") rfl)
    exact ⟨.str "member", _, e, ⟨t, rfl⟩, fun z => .str _⟩
  · obtain ⟨t, e⟩ := He.str_ok X G (c.x.t.d.fact 67 (f := .str "EITHER" "either") rfl)
    exact ⟨.str "either", _, e, ⟨t, rfl⟩, fun z => .str _⟩
  · obtain ⟨t, e⟩ := He.str_ok X G (c.x.t.d.fact 68 (f := .str "GUEST" "guest") rfl)
    exact ⟨.str "guest", _, e, ⟨t, rfl⟩, fun z => .str _⟩
  · obtain ⟨t, e⟩ := He.str_ok X G (c.x.t.d.fact 69 (f := .str "STRANGER" "stranger") rfl)
    exact ⟨.str "stranger", _, e, ⟨t, rfl⟩, fun z => .str _⟩
  · obtain ⟨t, e⟩ := He.str_ok X G (c.x.t.d.fact 70 (f := .str "KNOW" "know") rfl)
    exact ⟨.str "know", _, e, ⟨t, rfl⟩, fun z => .str _⟩
theorem xc_Refused (X : K.In base) (G : base.Ns mainGlobals mg) (c : SaysY fa fn tf ex ini w h0 K) : XcOk prog w K mg base "Refused" ["why"] := by
  have hok : (ii "Refused" 2 ["why"]).ok prog.main.file K = true := List.all_eq_true.mp (He.ba (He.ba c.x.more).2).1 _ (List.mem_of_getElem? (i := 0) rfl)
  refine xc1 (d := ii "Refused" 2 ["why"]) (x := "why") (q0 := ⟨9, 8, 9, 13⟩) (q1 := ⟨9, 8, 9, 15⟩) (q2 := ⟨9, 8, 9, 24⟩) (q3 := ⟨9, 8, 9, 29⟩) (q4 := ⟨9, 8, 9, 29⟩) (q5 := ⟨9, 25, 9, 28⟩) (q8 := ⟨10, 8, 10, 12⟩) (q9 := ⟨10, 8, 10, 16⟩) (q10 := ⟨10, 19, 10, 22⟩) (q11 := ⟨10, 8, 10, 22⟩) (c.iniAt 0) hok (He.glo_ok X G (c.x.t.d.fact 65 (f := .glo "Refused") rfl)) (by kernel_rfl) rfl (NdefX.nscope_by (by kernel_rfl)) (by kernel_rfl) (by kernel_rfl) (free_all X G c "super" (by decide)) (by kernel_rfl)
    (fun _ _ _ _ _ us hl => match us, hl with | [_, _], _ => by kernel_rfl) (fun _ us hl => match us, hl with | [_], _ => by rfl) (fun _ us hl => match us, hl with | [_], _ => ?_) (fun _ _ _ _ => ⟨_, rfl⟩) (fun _ _ _ _ => by kernel_rfl) (fun _ _ _ _ => ⟨by kernel_rfl, by kernel_rfl⟩) (by kernel_rfl) (by kernel_rfl) (fun _ _ _ _ => by kernel_rfl)
  exact .cons ⟨"why", _, rfl, by decide, by rfl, by kernel_rfl⟩ (.nil)
theorem xc_all (X : K.In base) (G : base.Ns mainGlobals mg) (c : SaysY fa fn tf ex ini w h0 K) : ∀ p ∈ xcs, XcOk prog w K mg base p.1 p.2 := by
  intro p hp
  unfold xcs at hp
  simp only [List.mem_cons, List.not_mem_nil, or_false] at hp
  subst hp
  exact xc_Refused X G c
theorem hd__law_heard (X : K.In base) (G : base.Ns mainGlobals mg) (c : SaysY fa fn tf ex ini w h0 K) : HeardAt K mg "_law_heard" ⟨"told", "Refused", "refused", "why"⟩ := by
  obtain ⟨fd, F⟩ := c.x.t.d.def_ 43 (d := dd "_law_heard" 60) rfl
  have eb : C8.fnBody (st 60) = heardB ⟨"told", "Refused", "refused", "why"⟩ "act" "error" 0 0 0 0 ⟨231, 16, 231, 22⟩ ⟨231, 24, 231, 27⟩ ⟨231, 24, 231, 29⟩ ⟨231, 15, 231, 30⟩ ⟨231, 8, 231, 30⟩ ⟨232, 11, 232, 18⟩ ⟨233, 16, 233, 25⟩ ⟨233, 27, 233, 32⟩ ⟨233, 27, 233, 36⟩ ⟨233, 15, 233, 37⟩ ⟨233, 8, 233, 37⟩ ⟨232, 4, 233, 37⟩ ⟨230, 4, 233, 37⟩ := by kernel_rfl
  have F : FunD K "_law_heard" "_law_heard" (C8.fnArgs (st 60)) (C8.fnBody (st 60)) (C8.fnScope (st 60)) [] [] (He.ga K "_law_heard") fd := F
  rw [eb] at F
  have hm := (He.ba (He.ba c.x.more).2).2
  obtain ⟨m1, hm⟩ := He.ba hm
  obtain ⟨m2, m3⟩ := He.ba hm
  exact ⟨He.ga K "_law_heard", He.ga K "Refused", fd, _, _, "act", "error", _, _, _, _, _, _, _, _, _, _, _, _, _, _, _, _, _, He.glo_ok X G (c.x.t.d.fact 43 (f := .glo "_law_heard") rfl), F, by kernel_rfl, fun _ _ _ _ _ _ us hl => match us, hl with | [_], _ => by kernel_rfl,
    by kernel_rfl, by kernel_rfl, by kernel_rfl, by kernel_rfl, by kernel_rfl, by kernel_rfl, by kernel_rfl, by kernel_rfl, He.glo_ok X G (c.x.t.d.fact 65 (f := .glo "Refused") rfl), xfB_ok m1, He.eqO_ok m2, of_decide_eq_true m3⟩
theorem hd_all (X : K.In base) (G : base.Ns mainGlobals mg) (c : SaysY fa fn tf ex ini w h0 K) : ∀ x ∈ hds, HeardAt K mg x.1 x.2 := by
  intro p hp
  unfold hds at hp
  simp only [List.mem_cons, List.not_mem_nil, or_false] at hp
  subst hp
  exact hd__law_heard X G c
theorem at__law_bag (X : K.In base) (G : base.Ns mainGlobals mg) (c : SaysY fa fn tf ex ini w h0 K) (TB : ∀ p ∈ tf, LamX.TabB base mg (He.cT K p).1 (He.cT K p).2) : FnAt prog w K mg base (tbOf K tf) 1 "_law_bag" F__law_bag := by
  obtain ⟨fd, F⟩ := c.x.t.d.def_ 0 (d := dd "_law_bag" 46) rfl
  have t1 : TabOk prog w K mg base (tbOf K tf) 0 (M__law_bag eps0).T := tab_nil
  have m : ∀ ε, Mod0 (M__law_bag ε) prog w K mg base (tbOf K tf) := fun ε => ⟨t1, free_all X G c, con_all X G c, xc_all X G c, fun h => Bool.noConfusion h, hd_all X G c⟩
  have r := fnr_def (M := M__law_bag) (tb := tbOf K tf) (P := prog) (w := w) (mg := mg) (base := base) (ps := ["script"]) (N := ["script", "cell"]) (mt := []) F (fun _ => rfl) (fun _ => rfl) m (fun ε => (B__law_bag ε).2) (by kernel_rfl) (fun _ _ _ _ _ _ us hl => match us, hl with | [_], _ => rfl) (by decide) (by decide)
  exact ⟨_, He.glo_ok X G (c.x.t.d.fact 0 (f := .glo "_law_bag") rfl), F.kp, (r.imp (kept bag_ref)).mono (by decide)⟩
theorem at__law_take (X : K.In base) (G : base.Ns mainGlobals mg) (c : SaysY fa fn tf ex ini w h0 K) (TB : ∀ p ∈ tf, LamX.TabB base mg (He.cT K p).1 (He.cT K p).2) : FnAt prog w K mg base (tbOf K tf) 1 "_law_take" F__law_take := by
  obtain ⟨fd, F⟩ := c.x.t.d.def_ 1 (d := dd "_law_take" 47) rfl
  have t1 : TabOk prog w K mg base (tbOf K tf) 0 (M__law_take eps0).T := tab_nil
  have m : ∀ ε, Mod0 (M__law_take ε) prog w K mg base (tbOf K tf) := fun ε => ⟨t1, free_all X G c, con_all X G c, xc_all X G c, fun h => Bool.noConfusion h, hd_all X G c⟩
  have r := fnr_def (M := M__law_take) (tb := tbOf K tf) (P := prog) (w := w) (mg := mg) (base := base) (ps := ["bag", "many"]) (N := ["bag", "many", "cell", "stirred", "value", "begin", "second"]) (mt := []) F (fun _ => rfl) (fun _ => rfl) m (fun ε => (B__law_take ε).2) (by kernel_rfl) (fun _ _ _ _ _ _ us hl => match us, hl with | [_, _], _ => rfl) (by decide) (by decide)
  exact ⟨_, He.glo_ok X G (c.x.t.d.fact 1 (f := .glo "_law_take") rfl), F.kp, (r.imp (kept take_ref)).mono (by decide)⟩
theorem at__law_some (X : K.In base) (G : base.Ns mainGlobals mg) (c : SaysY fa fn tf ex ini w h0 K) (TB : ∀ p ∈ tf, LamX.TabB base mg (He.cT K p).1 (He.cT K p).2) : FnAt prog w K mg base (tbOf K tf) 2 "_law_some" F__law_some := by
  obtain ⟨fd, F⟩ := c.x.t.d.def_ 2 (d := dd "_law_some" 48) rfl
  have t1 : TabOk prog w K mg base (tbOf K tf) 1 (M__law_some eps0).T := (tab_cons (at__law_take X G c TB) tab_nil)
  have m : ∀ ε, Mod0 (M__law_some ε) prog w K mg base (tbOf K tf) := fun ε => ⟨t1, free_all X G c, con_all X G c, xc_all X G c, fun h => Bool.noConfusion h, hd_all X G c⟩
  have r := fnr_def (M := M__law_some) (tb := tbOf K tf) (P := prog) (w := w) (mg := mg) (base := base) (ps := ["bag", "things"]) (N := ["bag", "things"]) (mt := []) F (fun _ => rfl) (fun _ => rfl) m (fun ε => (B__law_some ε).2) (by kernel_rfl) (fun _ _ _ _ _ _ us hl => match us, hl with | [_, _], _ => rfl) (by decide) (by decide)
  exact ⟨_, He.glo_ok X G (c.x.t.d.fact 2 (f := .glo "_law_some") rfl), F.kp, r⟩
theorem at__law_lots (X : K.In base) (G : base.Ns mainGlobals mg) (c : SaysY fa fn tf ex ini w h0 K) (TB : ∀ p ∈ tf, LamX.TabB base mg (He.cT K p).1 (He.cT K p).2) : FnAt prog w K mg base (tbOf K tf) 1 "_law_lots" F__law_lots := by
  obtain ⟨fd, F⟩ := c.x.t.d.def_ 3 (d := dd "_law_lots" 52) rfl
  have t1 : TabOk prog w K mg base (tbOf K tf) 0 (M__law_lots eps0).T := tab_nil
  have m : ∀ ε, Mod0 (M__law_lots ε) prog w K mg base (tbOf K tf) := fun ε => ⟨t1, free_all X G c, con_all X G c, xc_all X G c, fun h => Bool.noConfusion h, hd_all X G c⟩
  have r := fnr_def (M := M__law_lots) (tb := tbOf K tf) (P := prog) (w := w) (mg := mg) (base := base) (ps := ["many"]) (N := ["many", "found", "one", "lot"]) (mt := []) F (fun _ => rfl) (fun _ => rfl) m (fun ε => (B__law_lots ε).2) (by kernel_rfl) (fun _ _ _ _ _ _ us hl => match us, hl with | [_], _ => rfl) (by decide) (by decide)
  exact ⟨_, He.glo_ok X G (c.x.t.d.fact 3 (f := .glo "_law_lots") rfl), F.kp, r⟩
theorem at__law_couples (X : K.In base) (G : base.Ns mainGlobals mg) (c : SaysY fa fn tf ex ini w h0 K) (TB : ∀ p ∈ tf, LamX.TabB base mg (He.cT K p).1 (He.cT K p).2) : FnAt prog w K mg base (tbOf K tf) 1 "_law_couples" F__law_couples := by
  obtain ⟨fd, F⟩ := c.x.t.d.def_ 4 (d := dd "_law_couples" 51) rfl
  have t1 : TabOk prog w K mg base (tbOf K tf) 0 (M__law_couples eps0).T := tab_nil
  have m : ∀ ε, Mod0 (M__law_couples ε) prog w K mg base (tbOf K tf) := fun ε => ⟨t1, free_all X G c, con_all X G c, xc_all X G c, fun h => Bool.noConfusion h, hd_all X G c⟩
  have r := fnr_def (M := M__law_couples) (tb := tbOf K tf) (P := prog) (w := w) (mg := mg) (base := base) (ps := ["many"]) (N := ["many", "found", "a", "b"]) (mt := [1]) F (fun _ => rfl) (fun _ => rfl) m (fun ε => (B__law_couples ε).2) (by kernel_rfl) (fun _ _ _ _ _ _ us hl => match us, hl with | [_], _ => rfl) (by decide) (by decide)
  exact ⟨_, He.glo_ok X G (c.x.t.d.fact 4 (f := .glo "_law_couples") rfl), F.kp, r⟩
theorem at__law_parted (X : K.In base) (G : base.Ns mainGlobals mg) (c : SaysY fa fn tf ex ini w h0 K) (TB : ∀ p ∈ tf, LamX.TabB base mg (He.cT K p).1 (He.cT K p).2) : FnAt prog w K mg base (tbOf K tf) 3 "_law_parted" F__law_parted := by
  obtain ⟨fd, F⟩ := c.x.t.d.def_ 5 (d := dd "_law_parted" 58) rfl
  have t1 : TabOk prog w K mg base (tbOf K tf) 2 (M__law_parted eps0).T := (tab_cons (at__law_take X G c TB) (tab_cons (at__law_some X G c TB) (tab_cons (at__law_lots X G c TB) (tab_cons (at__law_couples X G c TB) tab_nil))))
  have m : ∀ ε, Mod0 (M__law_parted ε) prog w K mg base (tbOf K tf) := fun ε => ⟨t1, free_all X G c, con_all X G c, xc_all X G c, fun h => Bool.noConfusion h, hd_all X G c⟩
  have r := fnr_def (M := M__law_parted) (tb := tbOf K tf) (P := prog) (w := w) (mg := mg) (base := base) (ps := ["bag", "most"]) (N := ["bag", "most", "many", "lot", "known", "a", "b", "both"]) (mt := []) F (fun _ => rfl) (fun _ => rfl) m (fun ε => (B__law_parted ε).2) (by kernel_rfl) (fun _ _ _ _ _ _ us hl => match us, hl with | [_, _], _ => rfl) (by decide) (by decide)
  exact ⟨_, He.glo_ok X G (c.x.t.d.fact 5 (f := .glo "_law_parted") rfl), F.kp, r⟩
theorem at__law_table (X : K.In base) (G : base.Ns mainGlobals mg) (c : SaysY fa fn tf ex ini w h0 K) (TB : ∀ p ∈ tf, LamX.TabB base mg (He.cT K p).1 (He.cT K p).2) : FnAt prog w K mg base (tbOf K tf) 4 "_law_table" F__law_table := by
  obtain ⟨fd, F⟩ := c.x.t.d.def_ 6 (d := dd "_law_table" 59) rfl
  have t1 : TabOk prog w K mg base (tbOf K tf) 3 (M__law_table eps0).T := (tab_cons (at__law_parted X G c TB) (tab_cons (at__law_take X G c TB) (tab_cons (at__law_couples X G c TB) tab_nil)))
  have m : ∀ ε, Mod0 (M__law_table ε) prog w K mg base (tbOf K tf) := fun ε => ⟨t1, free_all X G c, con_all X G c, xc_all X G c, fun h => Bool.noConfusion h, hd_all X G c⟩
  have r := fnr_def (M := M__law_table) (tb := tbOf K tf) (P := prog) (w := w) (mg := mg) (base := base) (ps := ["bag", "most"]) (N := ["bag", "most", "table", "lot", "way", "chance", "couple"]) (mt := []) F (fun _ => rfl) (fun _ => rfl) m (fun ε => (B__law_table ε).2) (by kernel_rfl) (fun _ _ _ _ _ _ us hl => match us, hl with | [_, _], _ => rfl) (by decide) (by decide)
  exact ⟨_, He.glo_ok X G (c.x.t.d.fact 6 (f := .glo "_law_table") rfl), F.kp, r⟩
theorem at__law_mixed (X : K.In base) (G : base.Ns mainGlobals mg) (c : SaysY fa fn tf ex ini w h0 K) (TB : ∀ p ∈ tf, LamX.TabB base mg (He.cT K p).1 (He.cT K p).2) : FnAt prog w K mg base (tbOf K tf) 2 "_law_mixed" F__law_mixed := by
  obtain ⟨fd, F⟩ := c.x.t.d.def_ 7 (d := dd "_law_mixed" 49) rfl
  have t1 : TabOk prog w K mg base (tbOf K tf) 1 (M__law_mixed eps0).T := (tab_cons (at__law_take X G c TB) tab_nil)
  have m : ∀ ε, Mod0 (M__law_mixed ε) prog w K mg base (tbOf K tf) := fun ε => ⟨t1, free_all X G c, con_all X G c, xc_all X G c, fun h => Bool.noConfusion h, hd_all X G c⟩
  have r := fnr_def (M := M__law_mixed) (tb := tbOf K tf) (P := prog) (w := w) (mg := mg) (base := base) (ps := ["bag", "things"]) (N := ["bag", "things", "left", "found"]) (mt := [2, 3]) F (fun _ => rfl) (fun _ => rfl) m (fun ε => (B__law_mixed ε).2) (by kernel_rfl) (fun _ _ _ _ _ _ us hl => match us, hl with | [_, _], _ => rfl) (by decide) (by decide)
  exact ⟨_, He.glo_ok X G (c.x.t.d.fact 7 (f := .glo "_law_mixed") rfl), F.kp, r⟩
theorem at__law_empty (X : K.In base) (G : base.Ns mainGlobals mg) (c : SaysY fa fn tf ex ini w h0 K) (TB : ∀ p ∈ tf, LamX.TabB base mg (He.cT K p).1 (He.cT K p).2) : FnAt prog w K mg base (tbOf K tf) 1 "_law_empty" F__law_empty := by
  obtain ⟨fd, F⟩ := c.x.t.d.def_ 8 (d := dd "_law_empty" 54) rfl
  have t1 : TabOk prog w K mg base (tbOf K tf) 0 (M__law_empty eps0).T := tab_nil
  have m : ∀ ε, Mod0 (M__law_empty ε) prog w K mg base (tbOf K tf) := fun ε => ⟨t1, free_all X G c, con_all X G c, xc_all X G c, fun h => Bool.noConfusion h, hd_all X G c⟩
  have r := fnr_def (M := M__law_empty) (tb := tbOf K tf) (P := prog) (w := w) (mg := mg) (base := base) (ps := ["table", "lot"]) (N := ["table", "lot", "a", "b"]) (mt := []) F (fun _ => rfl) (fun _ => rfl) m (fun ε => (B__law_empty ε).2) (by kernel_rfl) (fun _ _ _ _ _ _ us hl => match us, hl with | [_, _], _ => rfl) (by decide) (by decide)
  exact ⟨_, He.glo_ok X G (c.x.t.d.fact 8 (f := .glo "_law_empty") rfl), F.kp, r⟩
theorem at__law_others (X : K.In base) (G : base.Ns mainGlobals mg) (c : SaysY fa fn tf ex ini w h0 K) (TB : ∀ p ∈ tf, LamX.TabB base mg (He.cT K p).1 (He.cT K p).2) : FnAt prog w K mg base (tbOf K tf) 1 "_law_others" F__law_others := by
  obtain ⟨fd, F⟩ := c.x.t.d.def_ 9 (d := dd "_law_others" 55) rfl
  have t1 : TabOk prog w K mg base (tbOf K tf) 0 (M__law_others eps0).T := tab_nil
  have m : ∀ ε, Mod0 (M__law_others ε) prog w K mg base (tbOf K tf) := fun ε => ⟨t1, free_all X G c, con_all X G c, xc_all X G c, fun h => Bool.noConfusion h, hd_all X G c⟩
  have r := fnr_def (M := M__law_others) (tb := tbOf K tf) (P := prog) (w := w) (mg := mg) (base := base) (ps := ["table", "lot"]) (N := ["table", "lot", "one"]) (mt := []) F (fun _ => rfl) (fun _ => rfl) m (fun ε => (B__law_others ε).2) (by kernel_rfl) (fun _ _ _ _ _ _ us hl => match us, hl with | [_, _], _ => rfl) (by decide) (by decide)
  exact ⟨_, He.glo_ok X G (c.x.t.d.fact 9 (f := .glo "_law_others") rfl), F.kp, r⟩
theorem at__law_full (X : K.In base) (G : base.Ns mainGlobals mg) (c : SaysY fa fn tf ex ini w h0 K) (TB : ∀ p ∈ tf, LamX.TabB base mg (He.cT K p).1 (He.cT K p).2) : FnAt prog w K mg base (tbOf K tf) 2 "_law_full" F__law_full := by
  obtain ⟨fd, F⟩ := c.x.t.d.def_ 10 (d := dd "_law_full" 53) rfl
  have t1 : TabOk prog w K mg base (tbOf K tf) 1 (M__law_full eps0).T := (tab_cons (at__law_couples X G c TB) tab_nil)
  have m : ∀ ε, Mod0 (M__law_full ε) prog w K mg base (tbOf K tf) := fun ε => ⟨t1, free_all X G c, con_all X G c, xc_all X G c, fun h => Bool.noConfusion h, hd_all X G c⟩
  have r := fnr_def (M := M__law_full) (tb := tbOf K tf) (P := prog) (w := w) (mg := mg) (base := base) (ps := ["table", "lot"]) (N := ["table", "lot", "a", "b"]) (mt := []) F (fun _ => rfl) (fun _ => rfl) m (fun ε => (B__law_full ε).2) (by kernel_rfl) (fun _ _ _ _ _ _ us hl => match us, hl with | [_, _], _ => rfl) (by decide) (by decide)
  exact ⟨_, He.glo_ok X G (c.x.t.d.fact 10 (f := .glo "_law_full") rfl), F.kp, r⟩
theorem at__law_parts (X : K.In base) (G : base.Ns mainGlobals mg) (c : SaysY fa fn tf ex ini w h0 K) (TB : ∀ p ∈ tf, LamX.TabB base mg (He.cT K p).1 (He.cT K p).2) : FnAt prog w K mg base (tbOf K tf) 3 "_law_parts" F__law_parts := by
  obtain ⟨fd, F⟩ := c.x.t.d.def_ 11 (d := dd "_law_parts" 56) rfl
  have t1 : TabOk prog w K mg base (tbOf K tf) 2 (M__law_parts eps0).T := (tab_cons (at__law_empty X G c TB) (tab_cons (at__law_others X G c TB) (tab_cons (at__law_full X G c TB) tab_nil)))
  have m : ∀ ε, Mod0 (M__law_parts ε) prog w K mg base (tbOf K tf) := fun ε => ⟨t1, free_all X G c, con_all X G c, xc_all X G c, fun h => Bool.noConfusion h, hd_all X G c⟩
  have r := fnr_def (M := M__law_parts) (tb := tbOf K tf) (P := prog) (w := w) (mg := mg) (base := base) (ps := ["table", "lot"]) (N := ["table", "lot"]) (mt := []) F (fun _ => rfl) (fun _ => rfl) m (fun ε => (B__law_parts ε).2) (by kernel_rfl) (fun _ _ _ _ _ _ us hl => match us, hl with | [_, _], _ => rfl) (by decide) (by decide)
  exact ⟨_, He.glo_ok X G (c.x.t.d.fact 11 (f := .glo "_law_parts") rfl), F.kp, r⟩
theorem at_is_told (X : K.In base) (G : base.Ns mainGlobals mg) (c : SaysY fa fn tf ex ini w h0 K) (TB : ∀ p ∈ tf, LamX.TabB base mg (He.cT K p).1 (He.cT K p).2) : FnAt prog w K mg base (tbOf K tf) 1 "is_told" F_is_told := by
  obtain ⟨fd, F⟩ := c.x.t.d.def_ 12 (d := dd "is_told" 24) rfl
  have t1 : TabOk prog w K mg base (tbOf K tf) 0 (M_is_told eps0).T := tab_nil
  have m : ∀ ε, Mod0 (M_is_told ε) prog w K mg base (tbOf K tf) := fun ε => ⟨t1, free_all X G c, con_all X G c, xc_all X G c, fun h => Bool.noConfusion h, hd_all X G c⟩
  have r := fnr_def (M := M_is_told) (tb := tbOf K tf) (P := prog) (w := w) (mg := mg) (base := base) (ps := ["couples", "a", "b"]) (N := ["couples", "a", "b"]) (mt := []) F (fun _ => rfl) (fun _ => rfl) m (fun ε => (B_is_told ε).2) (by kernel_rfl) (fun _ _ _ _ _ _ us hl => match us, hl with | [_, _, _], _ => rfl) (by decide) (by decide)
  exact ⟨_, He.glo_ok X G (c.x.t.d.fact 12 (f := .glo "is_told") rfl), F.kp, r⟩
theorem at_row_from (X : K.In base) (G : base.Ns mainGlobals mg) (c : SaysY fa fn tf ex ini w h0 K) (TB : ∀ p ∈ tf, LamX.TabB base mg (He.cT K p).1 (He.cT K p).2) : FnAt prog w K mg base (tbOf K tf) 2 "row_from" F_row_from := by
  obtain ⟨fd, F⟩ := c.x.t.d.def_ 13 (d := dd "row_from" 36) rfl
  have t1 : TabOk prog w K mg base (tbOf K tf) 1 (M_row_from eps0).T := (tab_cons (at_is_told X G c TB) tab_nil)
  have m : ∀ ε, Mod0 (M_row_from ε) prog w K mg base (tbOf K tf) := fun ε => ⟨t1, free_all X G c, con_all X G c, xc_all X G c, fun h => Bool.noConfusion h, hd_all X G c⟩
  have r := fnr_def (M := M_row_from) (tb := tbOf K tf) (P := prog) (w := w) (mg := mg) (base := base) (ps := ["frame", "one", "first"]) (N := ["frame", "one", "first", "kinds", "level", "seen", "later", "here", "turn", "row", "there"]) (mt := [5, 6]) F (fun _ => rfl) (fun _ => rfl) m (fun ε => (B_row_from ε).2) (by kernel_rfl) (fun _ _ _ _ _ _ us hl => match us, hl with | [_, _, _], _ => rfl) (by decide) (by decide)
  exact ⟨_, He.glo_ok X G (c.x.t.d.fact 13 (f := .glo "row_from") rfl), F.kp, r⟩
theorem at_a_swing (X : K.In base) (G : base.Ns mainGlobals mg) (c : SaysY fa fn tf ex ini w h0 K) (TB : ∀ p ∈ tf, LamX.TabB base mg (He.cT K p).1 (He.cT K p).2) : FnAt prog w K mg base (tbOf K tf) 3 "a_swing" F_a_swing := by
  obtain ⟨fd, F⟩ := c.x.t.d.def_ 14 (d := dd "a_swing" 37) rfl
  have t1 : TabOk prog w K mg base (tbOf K tf) 2 (M_a_swing eps0).T := (tab_cons (at_row_from X G c TB) tab_nil)
  have m : ∀ ε, Mod0 (M_a_swing ε) prog w K mg base (tbOf K tf) := fun ε => ⟨t1, free_all X G c, con_all X G c, xc_all X G c, fun h => Bool.noConfusion h, hd_all X G c⟩
  have r := fnr_def (M := M_a_swing) (tb := tbOf K tf) (P := prog) (w := w) (mg := mg) (base := base) (ps := ["frame"]) (N := ["frame", "one", "first", "second"]) (mt := []) F (fun _ => rfl) (fun _ => rfl) m (fun ε => (B_a_swing ε).2) (by kernel_rfl) (fun _ _ _ _ _ _ us hl => match us, hl with | [_], _ => rfl) (by decide) (by decide)
  exact ⟨_, He.glo_ok X G (c.x.t.d.fact 14 (f := .glo "a_swing") rfl), F.kp, r⟩
theorem at_parts_frame (X : K.In base) (G : base.Ns mainGlobals mg) (c : SaysY fa fn tf ex ini w h0 K) (TB : ∀ p ∈ tf, LamX.TabB base mg (He.cT K p).1 (He.cT K p).2) : FnAt prog w K mg base (tbOf K tf) 1 "parts_frame" F_parts_frame := by
  obtain ⟨fd, F⟩ := c.x.t.d.def_ 15 (d := dd "parts_frame" 25) rfl
  have t1 : TabOk prog w K mg base (tbOf K tf) 0 (M_parts_frame eps0).T := tab_nil
  have m : ∀ ε, Mod0 (M_parts_frame ε) prog w K mg base (tbOf K tf) := fun ε => ⟨t1, free_all X G c, con_all X G c, xc_all X G c, fun h => Bool.noConfusion h, hd_all X G c⟩
  have r := fnr_def (M := M_parts_frame) (tb := tbOf K tf) (P := prog) (w := w) (mg := mg) (base := base) (ps := ["frame", "lot"]) (N := ["frame", "lot", "many", "known", "strangers", "a", "b"]) (mt := []) F (fun _ => rfl) (fun _ => rfl) m (fun ε => (B_parts_frame ε).2) (by kernel_rfl) (fun _ _ _ _ _ _ us hl => match us, hl with | [_, _], _ => rfl) (by decide) (by decide)
  exact ⟨_, He.glo_ok X G (c.x.t.d.fact 15 (f := .glo "parts_frame") rfl), F.kp, r⟩
theorem at_all_good (X : K.In base) (G : base.Ns mainGlobals mg) (c : SaysY fa fn tf ex ini w h0 K) (TB : ∀ p ∈ tf, LamX.TabB base mg (He.cT K p).1 (He.cT K p).2) : FnAt prog w K mg base (tbOf K tf) 2 "all_good" F_all_good := by
  obtain ⟨fd, F⟩ := c.x.t.d.def_ 16 (d := dd "all_good" 27) rfl
  have t1 : TabOk prog w K mg base (tbOf K tf) 1 (M_all_good eps0).T := (tab_cons (at_parts_frame X G c TB) tab_nil)
  have m : ∀ ε, Mod0 (M_all_good ε) prog w K mg base (tbOf K tf) := fun ε => ⟨t1, free_all X G c, con_all X G c, xc_all X G c, fun h => Bool.noConfusion h, hd_all X G c⟩
  have r := fnr_def (M := M_all_good) (tb := tbOf K tf) (P := prog) (w := w) (mg := mg) (base := base) (ps := ["frame"]) (N := ["frame", "found", "one", "lot"]) (mt := []) F (fun _ => rfl) (fun _ => rfl) m (fun ε => (B_all_good ε).2) (by kernel_rfl) (fun _ _ _ _ _ _ us hl => match us, hl with | [_], _ => rfl) (by decide) (by decide)
  exact ⟨_, He.glo_ok X G (c.x.t.d.fact 16 (f := .glo "all_good") rfl), F.kp, r⟩
theorem at_some_lot (X : K.In base) (G : base.Ns mainGlobals mg) (c : SaysY fa fn tf ex ini w h0 K) (TB : ∀ p ∈ tf, LamX.TabB base mg (He.cT K p).1 (He.cT K p).2) : FnAt prog w K mg base (tbOf K tf) 3 "some_lot" F_some_lot := by
  obtain ⟨fd, F⟩ := c.x.t.d.def_ 17 (d := dd "some_lot" 28) rfl
  have t1 : TabOk prog w K mg base (tbOf K tf) 2 (M_some_lot eps0).T := (tab_cons (at_all_good X G c TB) tab_nil)
  have m : ∀ ε, Mod0 (M_some_lot ε) prog w K mg base (tbOf K tf) := fun ε => ⟨t1, free_all X G c, con_all X G c, xc_all X G c, fun h => Bool.noConfusion h, hd_all X G c⟩
  have r := fnr_def (M := M_some_lot) (tb := tbOf K tf) (P := prog) (w := w) (mg := mg) (base := base) (ps := ["frame"]) (N := ["frame", "found"]) (mt := []) F (fun _ => rfl) (fun _ => rfl) m (fun ε => (B_some_lot ε).2) (by kernel_rfl) (fun _ _ _ _ _ _ us hl => match us, hl with | [_], _ => rfl) (by decide) (by decide)
  exact ⟨_, He.glo_ok X G (c.x.t.d.fact 17 (f := .glo "some_lot") rfl), F.kp, r⟩
theorem at_all_couples (X : K.In base) (G : base.Ns mainGlobals mg) (c : SaysY fa fn tf ex ini w h0 K) (TB : ∀ p ∈ tf, LamX.TabB base mg (He.cT K p).1 (He.cT K p).2) : FnAt prog w K mg base (tbOf K tf) 1 "all_couples" F_all_couples := by
  obtain ⟨fd, F⟩ := c.x.t.d.def_ 18 (d := dd "all_couples" 15) rfl
  have t1 : TabOk prog w K mg base (tbOf K tf) 0 (M_all_couples eps0).T := tab_nil
  have m : ∀ ε, Mod0 (M_all_couples ε) prog w K mg base (tbOf K tf) := fun ε => ⟨t1, free_all X G c, con_all X G c, xc_all X G c, fun h => Bool.noConfusion h, hd_all X G c⟩
  have r := fnr_def (M := M_all_couples) (tb := tbOf K tf) (P := prog) (w := w) (mg := mg) (base := base) (ps := ["many"]) (N := ["many", "a", "b"]) (mt := []) F (fun _ => rfl) (fun _ => rfl) m (fun ε => (B_all_couples ε).2) (by kernel_rfl) (fun _ _ _ _ _ _ us hl => match us, hl with | [_], _ => rfl) (by decide) (by decide)
  exact ⟨_, He.glo_ok X G (c.x.t.d.fact 18 (f := .glo "all_couples") rfl), F.kp, r⟩
theorem at_open_couples (X : K.In base) (G : base.Ns mainGlobals mg) (c : SaysY fa fn tf ex ini w h0 K) (TB : ∀ p ∈ tf, LamX.TabB base mg (He.cT K p).1 (He.cT K p).2) : FnAt prog w K mg base (tbOf K tf) 2 "open_couples" F_open_couples := by
  obtain ⟨fd, F⟩ := c.x.t.d.def_ 19 (d := dd "open_couples" 20) rfl
  have t1 : TabOk prog w K mg base (tbOf K tf) 1 (M_open_couples eps0).T := (tab_cons (at_all_couples X G c TB) tab_nil)
  have m : ∀ ε, Mod0 (M_open_couples ε) prog w K mg base (tbOf K tf) := fun ε => ⟨t1, free_all X G c, con_all X G c, xc_all X G c, fun h => Bool.noConfusion h, hd_all X G c⟩
  have r := fnr_def (M := M_open_couples) (tb := tbOf K tf) (P := prog) (w := w) (mg := mg) (base := base) (ps := ["frame"]) (N := ["frame", "many", "known", "strangers", "couple"]) (mt := []) F (fun _ => rfl) (fun _ => rfl) m (fun ε => (B_open_couples ε).2) (by kernel_rfl) (fun _ _ _ _ _ _ us hl => match us, hl with | [_], _ => rfl) (by decide) (by decide)
  exact ⟨_, He.glo_ok X G (c.x.t.d.fact 19 (f := .glo "open_couples") rfl), F.kp, r⟩
theorem at_is_integer (X : K.In base) (G : base.Ns mainGlobals mg) (c : SaysY fa fn tf ex ini w h0 K) (TB : ∀ p ∈ tf, LamX.TabB base mg (He.cT K p).1 (He.cT K p).2) : FnAt prog w K mg base (tbOf K tf) 1 "is_integer" F_is_integer := by
  obtain ⟨fd, F⟩ := c.x.t.d.def_ 20 (d := dd "is_integer" 7) rfl
  have t1 : TabOk prog w K mg base (tbOf K tf) 0 (M_is_integer eps0).T := tab_nil
  have m : ∀ ε, Mod0 (M_is_integer ε) prog w K mg base (tbOf K tf) := fun ε => ⟨t1, free_all X G c, con_all X G c, xc_all X G c, fun h => Bool.noConfusion h, hd_all X G c⟩
  have r := fnr_def (M := M_is_integer) (tb := tbOf K tf) (P := prog) (w := w) (mg := mg) (base := base) (ps := ["thing"]) (N := ["thing"]) (mt := []) F (fun _ => rfl) (fun _ => rfl) m (fun ε => (B_is_integer ε).2) (by kernel_rfl) (fun _ _ _ _ _ _ us hl => match us, hl with | [_], _ => rfl) (by decide) (by decide)
  exact ⟨_, He.glo_ok X G (c.x.t.d.fact 20 (f := .glo "is_integer") rfl), F.kp, r⟩
theorem at_are_all (X : K.In base) (G : base.Ns mainGlobals mg) (c : SaysY fa fn tf ex ini w h0 K) (TB : ∀ p ∈ tf, LamX.TabB base mg (He.cT K p).1 (He.cT K p).2) : FnAt prog w K mg base (tbOf K tf) 2 "are_all" F_are_all := by
  obtain ⟨fd, F⟩ := c.x.t.d.def_ 21 (d := dd "are_all" 10) rfl
  have t1 : TabOk prog w K mg base (tbOf K tf) 1 (M_are_all eps0).T := (tab_cons (at_is_integer X G c TB) tab_nil)
  have m : ∀ ε, Mod0 (M_are_all ε) prog w K mg base (tbOf K tf) := fun ε => ⟨t1, free_all X G c, con_all X G c, xc_all X G c, fun h => Bool.noConfusion h, hd_all X G c⟩
  have r := fnr_def (M := M_are_all) (tb := tbOf K tf) (P := prog) (w := w) (mg := mg) (base := base) (ps := ["thing", "fits"]) (N := ["thing", "fits", "member"]) (mt := []) F (fun _ => rfl) (fun _ => rfl) m (fun ε => (B_are_all ε).2) (by kernel_rfl) (fun _ _ _ _ _ _ us hl => match us, hl with | [_, _], _ => rfl) (by decide) (by decide)
  exact ⟨_, He.glo_ok X G (c.x.t.d.fact 21 (f := .glo "are_all") rfl), F.kp, r⟩
theorem at_are_integers (X : K.In base) (G : base.Ns mainGlobals mg) (c : SaysY fa fn tf ex ini w h0 K) (TB : ∀ p ∈ tf, LamX.TabB base mg (He.cT K p).1 (He.cT K p).2) : FnAt prog w K mg base (tbOf K tf) 3 "are_integers" F_are_integers := by
  obtain ⟨fd, F⟩ := c.x.t.d.def_ 22 (d := dd "are_integers" 11) rfl
  have t1 : TabOk prog w K mg base (tbOf K tf) 2 (M_are_integers eps0).T := (tab_cons (at_are_all X G c TB) (tab_cons (at_is_integer X G c TB) tab_nil))
  have m : ∀ ε, Mod0 (M_are_integers ε) prog w K mg base (tbOf K tf) := fun ε => ⟨t1, free_all X G c, con_all X G c, xc_all X G c, fun h => Bool.noConfusion h, hd_all X G c⟩
  have r := fnr_def (M := M_are_integers) (tb := tbOf K tf) (P := prog) (w := w) (mg := mg) (base := base) (ps := ["thing"]) (N := ["thing"]) (mt := []) F (fun _ => rfl) (fun _ => rfl) m (fun ε => (B_are_integers ε).2) (by kernel_rfl) (fun _ _ _ _ _ _ us hl => match us, hl with | [_], _ => rfl) (by decide) (by decide)
  exact ⟨_, He.glo_ok X G (c.x.t.d.fact 22 (f := .glo "are_integers") rfl), F.kp, r⟩
theorem at_do_rise (X : K.In base) (G : base.Ns mainGlobals mg) (c : SaysY fa fn tf ex ini w h0 K) (TB : ∀ p ∈ tf, LamX.TabB base mg (He.cT K p).1 (He.cT K p).2) : FnAt prog w K mg base (tbOf K tf) 4 "do_rise" F_do_rise := by
  obtain ⟨fd, F⟩ := c.x.t.d.def_ 23 (d := dd "do_rise" 13) rfl
  have t1 : TabOk prog w K mg base (tbOf K tf) 3 (M_do_rise eps0).T := (tab_cons (at_are_all X G c TB) (tab_cons (at_are_integers X G c TB) tab_nil))
  have m : ∀ ε, Mod0 (M_do_rise ε) prog w K mg base (tbOf K tf) := fun ε => ⟨t1, free_all X G c, con_all X G c, xc_all X G c, fun h => Bool.noConfusion h, hd_all X G c⟩
  have r := fnr_def (M := M_do_rise) (tb := tbOf K tf) (P := prog) (w := w) (mg := mg) (base := base) (ps := ["thing"]) (N := ["thing", "one", "other"]) (mt := []) F (fun _ => rfl) (fun _ => rfl) m (fun ε => (B_do_rise ε).2) (by kernel_rfl) (fun _ _ _ _ _ _ us hl => match us, hl with | [_], _ => rfl) (by decide) (by decide)
  exact ⟨_, He.glo_ok X G (c.x.t.d.fact 23 (f := .glo "do_rise") rfl), F.kp, r⟩
theorem at_is_lot (X : K.In base) (G : base.Ns mainGlobals mg) (c : SaysY fa fn tf ex ini w h0 K) (TB : ∀ p ∈ tf, LamX.TabB base mg (He.cT K p).1 (He.cT K p).2) : FnAt prog w K mg base (tbOf K tf) 5 "is_lot" F_is_lot := by
  obtain ⟨fd, F⟩ := c.x.t.d.def_ 24 (d := dd "is_lot" 16) rfl
  have t1 : TabOk prog w K mg base (tbOf K tf) 4 (M_is_lot eps0).T := (tab_cons (at_do_rise X G c TB) (tab_cons (at_are_integers X G c TB) tab_nil))
  have m : ∀ ε, Mod0 (M_is_lot ε) prog w K mg base (tbOf K tf) := fun ε => ⟨t1, free_all X G c, con_all X G c, xc_all X G c, fun h => Bool.noConfusion h, hd_all X G c⟩
  have r := fnr_def (M := M_is_lot) (tb := tbOf K tf) (P := prog) (w := w) (mg := mg) (base := base) (ps := ["table", "thing"]) (N := ["table", "thing", "one"]) (mt := []) F (fun _ => rfl) (fun _ => rfl) m (fun ε => (B_is_lot ε).2) (by kernel_rfl) (fun _ _ _ _ _ _ us hl => match us, hl with | [_, _], _ => rfl) (by decide) (by decide)
  exact ⟨_, He.glo_ok X G (c.x.t.d.fact 24 (f := .glo "is_lot") rfl), F.kp, r⟩
theorem at_does_part (X : K.In base) (G : base.Ns mainGlobals mg) (c : SaysY fa fn tf ex ini w h0 K) (TB : ∀ p ∈ tf, LamX.TabB base mg (He.cT K p).1 (He.cT K p).2) : FnAt prog w K mg base (tbOf K tf) 6 "does_part" F_does_part := by
  obtain ⟨fd, F⟩ := c.x.t.d.def_ 25 (d := dd "does_part" 26) rfl
  have t1 : TabOk prog w K mg base (tbOf K tf) 5 (M_does_part eps0).T := (tab_cons (at_parts_frame X G c TB) (tab_cons (at_is_lot X G c TB) tab_nil))
  have m : ∀ ε, Mod0 (M_does_part ε) prog w K mg base (tbOf K tf) := fun ε => ⟨t1, free_all X G c, con_all X G c, xc_all X G c, fun h => Bool.noConfusion h, hd_all X G c⟩
  have r := fnr_def (M := M_does_part) (tb := tbOf K tf) (P := prog) (w := w) (mg := mg) (base := base) (ps := ["frame", "thing"]) (N := ["frame", "thing"]) (mt := []) F (fun _ => rfl) (fun _ => rfl) m (fun ε => (B_does_part ε).2) (by kernel_rfl) (fun _ _ _ _ _ _ us hl => match us, hl with | [_, _], _ => rfl) (by decide) (by decide)
  exact ⟨_, He.glo_ok X G (c.x.t.d.fact 25 (f := .glo "does_part") rfl), F.kp, r⟩
theorem at_fills (X : K.In base) (G : base.Ns mainGlobals mg) (c : SaysY fa fn tf ex ini w h0 K) (TB : ∀ p ∈ tf, LamX.TabB base mg (He.cT K p).1 (He.cT K p).2) : FnAt prog w K mg base (tbOf K tf) 1 "fills" F_fills := by
  obtain ⟨fd, F⟩ := c.x.t.d.def_ 26 (d := dd "fills" 21) rfl
  have t1 : TabOk prog w K mg base (tbOf K tf) 0 (M_fills eps0).T := tab_nil
  have m : ∀ ε, Mod0 (M_fills ε) prog w K mg base (tbOf K tf) := fun ε => ⟨t1, free_all X G c, con_all X G c, xc_all X G c, fun h => Bool.noConfusion h, hd_all X G c⟩
  have r := fnr_def (M := M_fills) (tb := tbOf K tf) (P := prog) (w := w) (mg := mg) (base := base) (ps := ["frame", "table"]) (N := ["frame", "table", "many", "known", "strangers", "couple"]) (mt := []) F (fun _ => rfl) (fun _ => rfl) m (fun ε => (B_fills ε).2) (by kernel_rfl) (fun _ _ _ _ _ _ us hl => match us, hl with | [_, _], _ => rfl) (by decide) (by decide)
  exact ⟨_, He.glo_ok X G (c.x.t.d.fact 26 (f := .glo "fills") rfl), F.kp, r⟩
theorem at__law_alike (X : K.In base) (G : base.Ns mainGlobals mg) (c : SaysY fa fn tf ex ini w h0 K) (TB : ∀ p ∈ tf, LamX.TabB base mg (He.cT K p).1 (He.cT K p).2) : FnAt prog w K mg base (tbOf K tf) 1 "_law_alike" F__law_alike := by
  obtain ⟨fd, F⟩ := c.x.t.d.def_ 27 (d := dd "_law_alike" 50) rfl
  have t1 : TabOk prog w K mg base (tbOf K tf) 0 (M__law_alike eps0).T := tab_nil
  have m : ∀ ε, Mod0 (M__law_alike ε) prog w K mg base (tbOf K tf) := fun ε => ⟨t1, free_all X G c, con_all X G c, xc_all X G c, fun h => Bool.noConfusion h, hd_all X G c⟩
  have r := fnr_def (M := M__law_alike) (tb := tbOf K tf) (P := prog) (w := w) (mg := mg) (base := base) (ps := ["found", "due"]) (N := ["found", "due", "pairs", "at", "one", "other"]) (mt := [2]) F (fun _ => rfl) (fun _ => rfl) m (fun ε => (B__law_alike ε).2) (by kernel_rfl) (fun _ _ _ _ _ _ us hl => match us, hl with | [_, _], _ => rfl) (by decide) (by decide)
  exact ⟨_, He.glo_ok X G (c.x.t.d.fact 27 (f := .glo "_law_alike") rfl), F.kp, r⟩
theorem at_is_row (X : K.In base) (G : base.Ns mainGlobals mg) (c : SaysY fa fn tf ex ini w h0 K) (TB : ∀ p ∈ tf, LamX.TabB base mg (He.cT K p).1 (He.cT K p).2) : FnAt prog w K mg base (tbOf K tf) 2 "is_row" F_is_row := by
  obtain ⟨fd, F⟩ := c.x.t.d.def_ 28 (d := dd "is_row" 34) rfl
  have t1 : TabOk prog w K mg base (tbOf K tf) 1 (M_is_row eps0).T := (tab_cons (at_is_told X G c TB) tab_nil)
  have m : ∀ ε, Mod0 (M_is_row ε) prog w K mg base (tbOf K tf) := fun ε => ⟨t1, free_all X G c, con_all X G c, xc_all X G c, fun h => Bool.noConfusion h, hd_all X G c⟩
  have r := fnr_def (M := M_is_row) (tb := tbOf K tf) (P := prog) (w := w) (mg := mg) (base := base) (ps := ["frame", "row", "first"]) (N := ["frame", "row", "first", "kinds", "at", "a", "b"]) (mt := []) F (fun _ => rfl) (fun _ => rfl) m (fun ε => (B_is_row ε).2) (by kernel_rfl) (fun _ _ _ _ _ _ us hl => match us, hl with | [_, _, _], _ => rfl) (by decide) (by decide)
  exact ⟨_, He.glo_ok X G (c.x.t.d.fact 28 (f := .glo "is_row") rfl), F.kp, r⟩
theorem at_is_swing (X : K.In base) (G : base.Ns mainGlobals mg) (c : SaysY fa fn tf ex ini w h0 K) (TB : ∀ p ∈ tf, LamX.TabB base mg (He.cT K p).1 (He.cT K p).2) : FnAt prog w K mg base (tbOf K tf) 4 "is_swing" F_is_swing := by
  obtain ⟨fd, F⟩ := c.x.t.d.def_ 29 (d := dd "is_swing" 35) rfl
  have t1 : TabOk prog w K mg base (tbOf K tf) 3 (M_is_swing eps0).T := (tab_cons (at_are_integers X G c TB) (tab_cons (at_is_row X G c TB) tab_nil))
  have m : ∀ ε, Mod0 (M_is_swing ε) prog w K mg base (tbOf K tf) := fun ε => ⟨t1, free_all X G c, con_all X G c, xc_all X G c, fun h => Bool.noConfusion h, hd_all X G c⟩
  have r := fnr_def (M := M_is_swing) (tb := tbOf K tf) (P := prog) (w := w) (mg := mg) (base := base) (ps := ["frame", "thing"]) (N := ["frame", "thing", "first", "second", "row", "one"]) (mt := []) F (fun _ => rfl) (fun _ => rfl) m (fun ε => (B_is_swing ε).2) (by kernel_rfl) (fun _ _ _ _ _ _ us hl => match us, hl with | [_, _], _ => rfl) (by decide) (by decide)
  exact ⟨_, He.glo_ok X G (c.x.t.d.fact 29 (f := .glo "is_swing") rfl), F.kp, r⟩
theorem at_is_within (X : K.In base) (G : base.Ns mainGlobals mg) (c : SaysY fa fn tf ex ini w h0 K) (TB : ∀ p ∈ tf, LamX.TabB base mg (He.cT K p).1 (He.cT K p).2) : FnAt prog w K mg base (tbOf K tf) 2 "is_within" F_is_within := by
  obtain ⟨fd, F⟩ := c.x.t.d.def_ 30 (d := dd "is_within" 8) rfl
  have t1 : TabOk prog w K mg base (tbOf K tf) 1 (M_is_within eps0).T := (tab_cons (at_is_integer X G c TB) tab_nil)
  have m : ∀ ε, Mod0 (M_is_within ε) prog w K mg base (tbOf K tf) := fun ε => ⟨t1, free_all X G c, con_all X G c, xc_all X G c, fun h => Bool.noConfusion h, hd_all X G c⟩
  have r := fnr_def (M := M_is_within) (tb := tbOf K tf) (P := prog) (w := w) (mg := mg) (base := base) (ps := ["thing", "least", "most"]) (N := ["thing", "least", "most"]) (mt := []) F (fun _ => rfl) (fun _ => rfl) m (fun ε => (B_is_within ε).2) (by kernel_rfl) (fun _ _ _ _ _ _ us hl => match us, hl with | [_, _, _], _ => rfl) (by decide) (by decide)
  exact ⟨_, He.glo_ok X G (c.x.t.d.fact 30 (f := .glo "is_within") rfl), F.kp, r⟩
theorem at_need_frame (X : K.In base) (G : base.Ns mainGlobals mg) (c : SaysY fa fn tf ex ini w h0 K) (TB : ∀ p ∈ tf, LamX.TabB base mg (He.cT K p).1 (He.cT K p).2) : FnAt prog w K mg base (tbOf K tf) 3 "need_frame" F_need_frame := by
  obtain ⟨fd, F⟩ := c.x.t.d.def_ 31 (d := dd "need_frame" 38) rfl
  have t1 : TabOk prog w K mg base (tbOf K tf) 2 (M_need_frame eps0).T := (tab_cons (at_all_good X G c TB) tab_nil)
  have m : ∀ ε, Mod0 (M_need_frame ε) prog w K mg base (tbOf K tf) := fun ε => ⟨t1, free_all X G c, con_all X G c, xc_all X G c, fun h => Bool.noConfusion h, hd_all X G c⟩
  have r := fnr_def (M := M_need_frame) (tb := tbOf K tf) (P := prog) (w := w) (mg := mg) (base := base) (ps := ["frame"]) (N := ["frame"]) (mt := []) F (fun _ => rfl) (fun _ => rfl) m (fun ε => (B_need_frame ε).2) (by kernel_rfl) (fun _ _ _ _ _ _ us hl => match us, hl with | [_], _ => rfl) (by decide) (by decide)
  exact ⟨_, He.glo_ok X G (c.x.t.d.fact 31 (f := .glo "need_frame") rfl), F.kp, r⟩
theorem at_sure_side (X : K.In base) (G : base.Ns mainGlobals mg) (c : SaysY fa fn tf ex ini w h0 K) (TB : ∀ p ∈ tf, LamX.TabB base mg (He.cT K p).1 (He.cT K p).2) : FnAt prog w K mg base (tbOf K tf) 4 "sure_side" F_sure_side := by
  obtain ⟨fd, F⟩ := c.x.t.d.def_ 32 (d := dd "sure_side" 39) rfl
  have t1 : TabOk prog w K mg base (tbOf K tf) 3 (M_sure_side eps0).T := (tab_cons (at_is_within X G c TB) (tab_cons (at_need_frame X G c TB) (tab_cons (at_all_good X G c TB) tab_nil)))
  have m : ∀ ε, Mod0 (M_sure_side ε) prog w K mg base (tbOf K tf) := fun ε => ⟨t1, free_all X G c, con_all X G c, xc_all X G c, fun h => Bool.noConfusion h, hd_all X G c⟩
  have r := fnr_def (M := M_sure_side) (tb := tbOf K tf) (P := prog) (w := w) (mg := mg) (base := base) (ps := ["frame", "one"]) (N := ["frame", "one", "inside", "lot"]) (mt := []) F (fun _ => rfl) (fun _ => rfl) m (fun ε => (B_sure_side ε).2) (by kernel_rfl) (fun _ _ _ _ _ _ us hl => match us, hl with | [_, _], _ => rfl) (by decide) (by decide)
  exact ⟨_, He.glo_ok X G (c.x.t.d.fact 32 (f := .glo "sure_side") rfl), F.kp, r⟩
theorem at_lots_many (X : K.In base) (G : base.Ns mainGlobals mg) (c : SaysY fa fn tf ex ini w h0 K) (TB : ∀ p ∈ tf, LamX.TabB base mg (He.cT K p).1 (He.cT K p).2) : FnAt prog w K mg base (tbOf K tf) 4 "lots_many" F_lots_many := by
  obtain ⟨fd, F⟩ := c.x.t.d.def_ 33 (d := dd "lots_many" 43) rfl
  have t1 : TabOk prog w K mg base (tbOf K tf) 3 (M_lots_many eps0).T := (tab_cons (at_need_frame X G c TB) (tab_cons (at_all_good X G c TB) tab_nil))
  have m : ∀ ε, Mod0 (M_lots_many ε) prog w K mg base (tbOf K tf) := fun ε => ⟨t1, free_all X G c, con_all X G c, xc_all X G c, fun h => Bool.noConfusion h, hd_all X G c⟩
  have r := fnr_def (M := M_lots_many) (tb := tbOf K tf) (P := prog) (w := w) (mg := mg) (base := base) (ps := ["frame"]) (N := ["frame"]) (mt := []) F (fun _ => rfl) (fun _ => rfl) m (fun ε => (B_lots_many ε).2) (by kernel_rfl) (fun _ _ _ _ _ _ us hl => match us, hl with | [_], _ => rfl) (by decide) (by decide)
  exact ⟨_, He.glo_ok X G (c.x.t.d.fact 33 (f := .glo "lots_many") rfl), F.kp, r⟩
theorem at_best_person (X : K.In base) (G : base.Ns mainGlobals mg) (c : SaysY fa fn tf ex ini w h0 K) (TB : ∀ p ∈ tf, LamX.TabB base mg (He.cT K p).1 (He.cT K p).2) : FnAt prog w K mg base (tbOf K tf) 4 "best_person" F_best_person := by
  obtain ⟨fd, F⟩ := c.x.t.d.def_ 34 (d := dd "best_person" 44) rfl
  have t1 : TabOk prog w K mg base (tbOf K tf) 3 (M_best_person eps0).T := (tab_cons (at_need_frame X G c TB) (tab_cons (at_all_good X G c TB) tab_nil))
  have m : ∀ ε, Mod0 (M_best_person ε) prog w K mg base (tbOf K tf) := fun ε => ⟨t1, free_all X G c, con_all X G c, xc_all X G c, fun h => Bool.noConfusion h, hd_all X G c⟩
  have r := fnr_def (M := M_best_person) (tb := tbOf K tf) (P := prog) (w := w) (mg := mg) (base := base) (ps := ["frame"]) (N := ["frame", "lots", "marks", "one", "many", "lot"]) (mt := [2]) F (fun _ => rfl) (fun _ => rfl) m (fun ε => (B_best_person ε).2) (by kernel_rfl) (fun _ _ _ _ _ _ us hl => match us, hl with | [_], _ => rfl) (by decide) (by decide)
  exact ⟨_, He.glo_ok X G (c.x.t.d.fact 34 (f := .glo "best_person") rfl), F.kp, r⟩
theorem at_need_two (X : K.In base) (G : base.Ns mainGlobals mg) (c : SaysY fa fn tf ex ini w h0 K) (TB : ∀ p ∈ tf, LamX.TabB base mg (He.cT K p).1 (He.cT K p).2) : FnAt prog w K mg base (tbOf K tf) 3 "need_two" F_need_two := by
  obtain ⟨fd, F⟩ := c.x.t.d.def_ 35 (d := dd "need_two" 22) rfl
  have t1 : TabOk prog w K mg base (tbOf K tf) 2 (M_need_two eps0).T := (tab_cons (at_is_within X G c TB) tab_nil)
  have m : ∀ ε, Mod0 (M_need_two ε) prog w K mg base (tbOf K tf) := fun ε => ⟨t1, free_all X G c, con_all X G c, xc_all X G c, fun h => Bool.noConfusion h, hd_all X G c⟩
  have r := fnr_def (M := M_need_two) (tb := tbOf K tf) (P := prog) (w := w) (mg := mg) (base := base) (ps := ["frame", "a", "b"]) (N := ["frame", "a", "b"]) (mt := []) F (fun _ => rfl) (fun _ => rfl) m (fun ε => (B_need_two ε).2) (by kernel_rfl) (fun _ _ _ _ _ _ us hl => match us, hl with | [_, _, _], _ => rfl) (by decide) (by decide)
  exact ⟨_, He.glo_ok X G (c.x.t.d.fact 35 (f := .glo "need_two") rfl), F.kp, r⟩
theorem at_tell (X : K.In base) (G : base.Ns mainGlobals mg) (c : SaysY fa fn tf ex ini w h0 K) (TB : ∀ p ∈ tf, LamX.TabB base mg (He.cT K p).1 (He.cT K p).2) : FnAt prog w K mg base (tbOf K tf) 4 "tell" F_tell := by
  obtain ⟨fd, F⟩ := c.x.t.d.def_ 36 (d := dd "tell" 23) rfl
  have t1 : TabOk prog w K mg base (tbOf K tf) 3 (M_tell eps0).T := (tab_cons (at_need_two X G c TB) (tab_cons (at_open_couples X G c TB) tab_nil))
  have m : ∀ ε, Mod0 (M_tell ε) prog w K mg base (tbOf K tf) := fun ε => ⟨t1, free_all X G c, con_all X G c, xc_all X G c, fun h => Bool.noConfusion h, hd_all X G c⟩
  have r := fnr_def (M := M_tell) (tb := tbOf K tf) (P := prog) (w := w) (mg := mg) (base := base) (ps := ["frame", "a", "b", "word"]) (N := ["frame", "a", "b", "word", "couple", "many", "known", "strangers"]) (mt := []) F (fun _ => rfl) (fun _ => rfl) m (fun ε => (B_tell ε).2) (by kernel_rfl) (fun _ _ _ _ _ _ us hl => match us, hl with | [_, _, _, _], _ => rfl) (by decide) (by decide)
  exact ⟨_, He.glo_ok X G (c.x.t.d.fact 36 (f := .glo "tell") rfl), F.kp, r⟩
theorem at_sure_by (X : K.In base) (G : base.Ns mainGlobals mg) (c : SaysY fa fn tf ex ini w h0 K) (TB : ∀ p ∈ tf, LamX.TabB base mg (He.cT K p).1 (He.cT K p).2) : FnAt prog w K mg base (tbOf K tf) 5 "sure_by" F_sure_by := by
  obtain ⟨fd, F⟩ := c.x.t.d.def_ 37 (d := dd "sure_by" 40) rfl
  have t1 : TabOk prog w K mg base (tbOf K tf) 4 (M_sure_by eps0).T := (tab_cons (at_open_couples X G c TB) (tab_cons (at_all_good X G c TB) (tab_cons (at_tell X G c TB) tab_nil)))
  have m : ∀ ε, Mod0 (M_sure_by ε) prog w K mg base (tbOf K tf) := fun ε => ⟨t1, free_all X G c, con_all X G c, xc_all X G c, fun h => Bool.noConfusion h, hd_all X G c⟩
  have r := fnr_def (M := M_sure_by) (tb := tbOf K tf) (P := prog) (w := w) (mg := mg) (base := base) (ps := ["frame", "word"]) (N := ["frame", "word", "a", "b"]) (mt := []) F (fun _ => rfl) (fun _ => rfl) m (fun ε => (B_sure_by ε).2) (by kernel_rfl) (fun _ _ _ _ _ _ us hl => match us, hl with | [_, _], _ => rfl) (by decide) (by decide)
  exact ⟨_, He.glo_ok X G (c.x.t.d.fact 37 (f := .glo "sure_by") rfl), F.kp, r⟩
theorem at_surely_known (X : K.In base) (G : base.Ns mainGlobals mg) (c : SaysY fa fn tf ex ini w h0 K) (TB : ∀ p ∈ tf, LamX.TabB base mg (He.cT K p).1 (He.cT K p).2) : FnAt prog w K mg base (tbOf K tf) 6 "surely_known" F_surely_known := by
  obtain ⟨fd, F⟩ := c.x.t.d.def_ 38 (d := dd "surely_known" 41) rfl
  have t1 : TabOk prog w K mg base (tbOf K tf) 5 (M_surely_known eps0).T := (tab_cons (at_need_frame X G c TB) (tab_cons (at_sure_by X G c TB) tab_nil))
  have m : ∀ ε, Mod0 (M_surely_known ε) prog w K mg base (tbOf K tf) := fun ε => ⟨t1, free_all X G c, con_all X G c, xc_all X G c, fun h => Bool.noConfusion h, hd_all X G c⟩
  have r := fnr_def (M := M_surely_known) (tb := tbOf K tf) (P := prog) (w := w) (mg := mg) (base := base) (ps := ["frame"]) (N := ["frame"]) (mt := []) F (fun _ => rfl) (fun _ => rfl) m (fun ε => (B_surely_known ε).2) (by kernel_rfl) (fun _ _ _ _ _ _ us hl => match us, hl with | [_], _ => rfl) (by decide) (by decide)
  exact ⟨_, He.glo_ok X G (c.x.t.d.fact 38 (f := .glo "surely_known") rfl), F.kp, r⟩
theorem at_filled_by (X : K.In base) (G : base.Ns mainGlobals mg) (c : SaysY fa fn tf ex ini w h0 K) (TB : ∀ p ∈ tf, LamX.TabB base mg (He.cT K p).1 (He.cT K p).2) : FnAt prog w K mg base (tbOf K tf) 7 "filled_by" F_filled_by := by
  obtain ⟨fd, F⟩ := c.x.t.d.def_ 39 (d := dd "filled_by" 29) rfl
  have t1 : TabOk prog w K mg base (tbOf K tf) 6 (M_filled_by eps0).T := (tab_cons (at_does_part X G c TB) (tab_cons (at_all_couples X G c TB) tab_nil))
  have m : ∀ ε, Mod0 (M_filled_by ε) prog w K mg base (tbOf K tf) := fun ε => ⟨t1, free_all X G c, con_all X G c, xc_all X G c, fun h => Bool.noConfusion h, hd_all X G c⟩
  have r := fnr_def (M := M_filled_by) (tb := tbOf K tf) (P := prog) (w := w) (mg := mg) (base := base) (ps := ["frame", "lot"]) (N := ["frame", "lot", "inside", "a", "b", "couple"]) (mt := []) F (fun _ => rfl) (fun _ => rfl) m (fun ε => (B_filled_by ε).2) (by kernel_rfl) (fun _ _ _ _ _ _ us hl => match us, hl with | [_, _], _ => rfl) (by decide) (by decide)
  exact ⟨_, He.glo_ok X G (c.x.t.d.fact 39 (f := .glo "filled_by") rfl), F.kp, r⟩
theorem at__law_partings (X : K.In base) (G : base.Ns mainGlobals mg) (c : SaysY fa fn tf ex ini w h0 K) (TB : ∀ p ∈ tf, LamX.TabB base mg (He.cT K p).1 (He.cT K p).2) : FnAt prog w K mg base (tbOf K tf) 4 "_law_partings" F__law_partings := by
  obtain ⟨fd, F⟩ := c.x.t.d.def_ 40 (d := dd "_law_partings" 57) rfl
  have t1 : TabOk prog w K mg base (tbOf K tf) 3 (M__law_partings eps0).T := (tab_cons (at__law_lots X G c TB) (tab_cons (at__law_parts X G c TB) tab_nil))
  have m : ∀ ε, Mod0 (M__law_partings ε) prog w K mg base (tbOf K tf) := fun ε => ⟨t1, free_all X G c, con_all X G c, xc_all X G c, fun h => Bool.noConfusion h, hd_all X G c⟩
  have r := fnr_def (M := M__law_partings) (tb := tbOf K tf) (P := prog) (w := w) (mg := mg) (base := base) (ps := ["table"]) (N := ["table", "lot"]) (mt := []) F (fun _ => rfl) (fun _ => rfl) m (fun ε => (B__law_partings ε).2) (by kernel_rfl) (fun _ _ _ _ _ _ us hl => match us, hl with | [_], _ => rfl) (by decide) (by decide)
  exact ⟨_, He.glo_ok X G (c.x.t.d.fact 40 (f := .glo "_law_partings") rfl), F.kp, r⟩
theorem at_sure_strangers (X : K.In base) (G : base.Ns mainGlobals mg) (c : SaysY fa fn tf ex ini w h0 K) (TB : ∀ p ∈ tf, LamX.TabB base mg (He.cT K p).1 (He.cT K p).2) : FnAt prog w K mg base (tbOf K tf) 6 "sure_strangers" F_sure_strangers := by
  obtain ⟨fd, F⟩ := c.x.t.d.def_ 41 (d := dd "sure_strangers" 42) rfl
  have t1 : TabOk prog w K mg base (tbOf K tf) 5 (M_sure_strangers eps0).T := (tab_cons (at_need_frame X G c TB) (tab_cons (at_sure_by X G c TB) tab_nil))
  have m : ∀ ε, Mod0 (M_sure_strangers ε) prog w K mg base (tbOf K tf) := fun ε => ⟨t1, free_all X G c, con_all X G c, xc_all X G c, fun h => Bool.noConfusion h, hd_all X G c⟩
  have r := fnr_def (M := M_sure_strangers) (tb := tbOf K tf) (P := prog) (w := w) (mg := mg) (base := base) (ps := ["frame"]) (N := ["frame"]) (mt := []) F (fun _ => rfl) (fun _ => rfl) m (fun ε => (B_sure_strangers ε).2) (by kernel_rfl) (fun _ _ _ _ _ _ us hl => match us, hl with | [_], _ => rfl) (by decide) (by decide)
  exact ⟨_, He.glo_ok X G (c.x.t.d.fact 41 (f := .glo "sure_strangers") rfl), F.kp, r⟩
theorem runs {a fl : Addr} {s : Shared} {H : Hp} {Q : VK} {E : XK} (X : K.In base) (G : base.Ns mainGlobals mg) (hfl : mg ("law" : Str) = some (.ref fl)) (c : SaysY fa fn tf ex ini w h0 K) (TB : ∀ p ∈ tf, LamX.TabB base mg (He.cT K p).1 (He.cT K p).2) (e0 : Env0 prog w K mg base callerA [] s H) (hsp : spW K mg (tbOf K tf) (fun _ => F_law eps0) [.ref a] H Q E) :
    codeAny (model prog w) callerA (.call (.ref fl) ⟨[.ref a], []⟩) (CR CX0 [] prog w H s Q E) s := by
  obtain ⟨fd, F⟩ := c.x.t.d.def_ 42 (d := dd "law" 61) rfl
  have e := hfl.symm.trans (He.glo_ok X G (c.x.t.d.fact 42 (f := .glo "law") rfl))
  cases e
  have b := FunD.bindsA (ps := ["script"]) F fun _ _ _ _ _ _ us hl => match us, hl with | [_], _ => rfl
  have t1 : TabOk prog w K mg base (tbOf K tf) 9 (M_law eps0).T := (tab_cons (at__law_bag X G c TB) (tab_cons (at__law_table X G c TB) (tab_cons (at__law_mixed X G c TB) (tab_cons (at__law_couples X G c TB) (tab_cons (at__law_take X G c TB) (tab_cons (at__law_lots X G c TB) (tab_cons (at__law_parts X G c TB) (tab_cons (at_a_swing X G c TB) (tab_cons (at_some_lot X G c TB) (tab_cons (at_open_couples X G c TB) (tab_cons (at_does_part X G c TB) (tab_cons (at_fills X G c TB) (tab_cons (at__law_alike X G c TB) (tab_cons (at_is_swing X G c TB) (tab_cons (at_sure_side X G c TB) (tab_cons (at_lots_many X G c TB) (tab_cons (at_best_person X G c TB) (tab_cons (at_surely_known X G c TB) (tab_cons (at_filled_by X G c TB) (tab_cons (at__law_partings X G c TB) (tab_cons (at_sure_strangers X G c TB) tab_nil)))))))))))))))))))))
  have t2 : TabOk prog w K mg base (tbOf K tf) 7 (M_law eps0).T := (tab_cons (at__law_bag X G c TB) (tab_cons (at__law_table X G c TB) (tab_cons (at__law_mixed X G c TB) (tab_cons (at__law_couples X G c TB) (tab_cons (at__law_take X G c TB) (tab_cons (at__law_lots X G c TB) (tab_cons (at__law_parts X G c TB) (tab_cons (at_a_swing X G c TB) (tab_cons (at_some_lot X G c TB) (tab_cons (at_open_couples X G c TB) (tab_cons (at_does_part X G c TB) (tab_cons (at_fills X G c TB) (tab_cons (at__law_alike X G c TB) (tab_cons (at_is_swing X G c TB) (tab_cons (at_sure_side X G c TB) (tab_cons (at_lots_many X G c TB) (tab_cons (at_best_person X G c TB) (tab_cons (at_surely_known X G c TB) (tab_cons (at_filled_by X G c TB) (tab_cons (at__law_partings X G c TB) (tab_cons (at_sure_strangers X G c TB) tab_nil)))))))))))))))))))))
  have m : ∀ ε, Mod0 (M_law ε) prog w K mg base (tbOf K tf) := fun ε => ⟨t1, free_all X G c, con_all X G c, xc_all X G c, fun _ => ⟨by show 2 ≤ (9 : Nat); decide, t2⟩, hd_all X G c⟩
  exact law_run (ps := ["script"]) (N := ["script", "bag", "turn", "table", "many", "left", "one", "known", "apart", "rows", "couple", "tables", "lot", "ways", "parted", "swing", "found", "good", "ins", "marks", "size", "sides", "sure", "far", "frame", "row", "a", "b", "its", "own"]) (mt := [16, 19]) F (m eps0) rfl (B_law eps0).2 (by kernel_rfl) (by decide) (by decide) (fun _ => lam_ok ("law", none) (by simp [tf]) F TB (nd c)) ⟨by decide, by decide, by decide⟩ (b s [.ref a] rfl) rfl e0 hsp
end
end P98

set_option Elab.async false
set_option linter.all false
set_option maxRecDepth 100000
set_option maxHeartbeats 0
open PySem PySem.W PySem.Calls PyProof.Rows
theorem PySem.Challenge.cw_clubroom_k98_whole_sides_told_in_part_holds : PySem.Challenge.rw_clubroom_k98_whole_sides_told_in_part.Holds := by
  w_on; o_law
  refine HandSHeadRun.head_any (r := OpenLaw.row PySem.Challenge.rw_clubroom_k98_whole_sides_told_in_part) (q := view (OpenLaw.row PySem.Challenge.rw_clubroom_k98_whole_sides_told_in_part).prog [61]) (H := P98.hk) (ob := P98.ob) (M := 3000) (loose := P98.loose) (d := HandSHeadRun.topDef (OpenLaw.row PySem.Challenge.rw_clubroom_k98_whole_sides_told_in_part).prog 61) (kwd := []) P98.ob_eq
    (by kernel_rfl) (fun s => by kernel_rfl) P98.run (by kernel_rfl) (by kernel_rfl) (by kernel_rfl) (by rfl) (by first | assumption | decide +kernel) (by decide +kernel) ⟨rfl, rfl, rfl, rfl, rfl, by decide +kernel⟩ ?hw ?hc
  case hw => w_witness2
  case hc =>
    refine PW.walk_ofG (l := PySem.Challenge.rw_clubroom_k98_whole_sides_told_in_part) (n := 63) (cs := fun K => P98.tf.map (He.cT K)) rfl (by decide) (by kernel_rfl) ?F
    intro w mg fl h Y G hmg0
    obtain ⟨K, KX, c⟩ := Y
    have hmg : mg ("law" : PySem.Str) = some (.ref fl) := by
      have e : (HandSHeadRun.topDef (OpenLaw.row PySem.Challenge.rw_clubroom_k98_whole_sides_told_in_part).prog 61).name = ("law" : PySem.Str) := by kernel_rfl
      rw [← e]
      exact hmg0
    refine ⟨K, KX, fun p hp => ?_, fun p hp => ?_, fun p hp => ?_, fun base H s a ns hl X Gb TB hT hS e0 => ?_⟩
    · obtain ⟨q, hq, rfl⟩ := List.mem_map.mp hp
      exact c.x.empty q hq
    · obtain ⟨q, hq, rfl⟩ := List.mem_map.mp hp
      exact c.x.out q hq
    · obtain ⟨q, hq, rfl⟩ := List.mem_map.mp hp
      exact PySem.W.codeHd_of_K KX (c.x.hd q hq)
    · refine P98.runs X Gb hmg c (fun p hp => TB _ (List.mem_map_of_mem hp)) e0 (PW.sp_law (Φ := fun _ => P98.F_law PW.eps0) P98.law_true hl hS (fun p hp => ?_) _)
      obtain ⟨q, hq, rfl⟩ := List.mem_map.mp hp
      exact hT _ (List.mem_map_of_mem hq)
