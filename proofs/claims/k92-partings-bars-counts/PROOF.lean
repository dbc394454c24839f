import PyProof.Rows.All
import Wide.All
import OpenK.AllK
import Wide.FinOn
import KE.KStateDown
import HandS.ForMost
import HandS.Head0
import HandS.Head1
import HandS.Head2
import HandS.HeadEnd
import HandS.HeadHook1
import HandS.HeadHook2
import HandS.Star
import HandS.TupAny
import HandS.Style
import HandS.Zip
import HandS.IsInst
import HandS.IterVal
import HandS.Flow
import HandS.Deep
import HandS.TupLe
import PyProof.P3In
import KE.GoesMore
import HandS.Walk
import HandS.Sort
import HandS.Conv
import KE.SortData
import KE.DataMinMax
import KE.DataAny
import KE.KTupSum
import KE.DataEq
import HandS.TupLen
import HandS.WordsDict
import HandS.Text
import HandS.Codes
import HandS.Comp
import HandS.List
import HandS.Dict
import HandS.DictComp
import HandS.Defaults
import HandS.More
import PyProof.PassesOwn
import HandS.TupSets
import KE.GoesZip
import KE.KDictZip
import KE.KDictList
import HandS.DictTup
import PySem.Challenge.RW_clubroom_k92_whole_partings_bars_counts
set_option Elab.async false
set_option linter.all false
set_option maxRecDepth 100000
set_option maxHeartbeats 0
namespace P92
open PySem PySem.Spec PyProof.Rows L2
abbrev prog : Program := PySem.Challenge.pw_clubroom_k92_whole_partings_bars_counts
def st (j : Nat) : Stmt := (prog.main.body[j]?).getD (.Pass ⟨0, 0, 0, 0⟩)
def dd (n : Str) (j : Nat) : He.DefD := ⟨(n, none), n, n, C8.fnArgs (st j), C8.fnBody (st j), C8.fnScope (st j), [], []⟩
def fn : List He.DefD := [dd "_law_bag" 75, dd "_law_take" 76, dd "_law_some" 77, dd "_law_lots" 81, dd "_law_couples" 80, dd "_law_parted" 93, dd "_law_table" 94, dd "_law_empty" 83, dd "_law_others" 84, dd "_law_full" 82, dd "_law_parts" 85, dd "_law_partings" 86, dd "_law_know" 79, dd "_law_rings" 89, dd "_law_far" 90, dd "_law_bars" 91, dd "people" 15, dd "is_integer" 7, dd "is_within" 8, dd "need_people" 16, dd "is_known" 17, dd "known_by" 18, dd "counts" 38, dd "order_of" 54, dd "first_ones" 55, dd "head_of" 41, dd "sorted_list" 39, dd "list_of" 40, dd "head" 43, dd "by_counts" 56, dd "is_empty" 28, dd "others" 48, dd "is_full" 27, dd "does_part" 49, dd "a_parting" 57, dd "all_lots" 47, dd "partings" 51, dd "partings_many" 52, dd "lack_of" 42, dd "lack" 44, dd "all_couples" 19, dd "need_two" 22, dd "without_couple" 24, dd "with_couple" 23, dd "told_otherwise" 68, dd "lack_by" 69, dd "better" 71, dd "half_lack" 45, dd "fewest_wrong" 73, dd "strangers" 20, dd "turned" 26, dd "_law_alike" 78, dd "are_all" 10, dd "are_integers" 11, dd "do_rise" 13, dd "is_lot" 21, dd "is_parting" 50, dd "rings_of" 34, dd "are_different" 30, dd "known_among" 31, dd "is_square" 32, dd "squares" 35, dd "is_five" 33, dd "fives" 36, dd "_law_lack" 88, dd "_law_counts" 87, dd "goes" 59, dd "in_turn" 61, dd "changes" 62, dd "is_change" 60, dd "need_change" 64, dd "by_change" 63, dd "changed" 65, dd "is_still" 66, dd "lack_with" 70, dd "part_of" 25, dd "_law_part_of" 92, dd "law" 95]
def fa : List He.Fa := [.glo "_law_bag", .glo "_law_take", .glo "_law_some", .glo "_law_lots", .glo "_law_couples", .glo "_law_parted", .glo "_law_table", .glo "_law_empty", .glo "_law_others", .glo "_law_full", .glo "_law_parts", .glo "_law_partings", .glo "_law_know", .glo "_law_rings", .glo "_law_far", .glo "_law_bars", .glo "people", .glo "is_integer", .glo "is_within", .glo "need_people", .glo "is_known", .glo "known_by", .glo "counts", .glo "order_of", .glo "first_ones", .glo "head_of", .glo "sorted_list", .glo "list_of", .glo "head", .glo "by_counts", .glo "is_empty", .glo "others", .glo "is_full", .glo "does_part", .glo "a_parting", .glo "all_lots", .glo "partings", .glo "partings_many", .glo "lack_of", .glo "lack", .glo "all_couples", .glo "need_two", .glo "without_couple", .glo "with_couple", .glo "told_otherwise", .glo "lack_by", .glo "better", .glo "half_lack", .glo "fewest_wrong", .glo "strangers", .glo "turned", .glo "_law_alike", .glo "are_all", .glo "are_integers", .glo "do_rise", .glo "is_lot", .glo "is_parting", .glo "rings_of", .glo "are_different", .glo "known_among", .glo "is_square", .glo "squares", .glo "is_five", .glo "fives", .glo "_law_lack", .glo "_law_counts", .glo "goes", .glo "in_turn", .glo "changes", .glo "is_change", .glo "need_change", .glo "by_change", .glo "changed", .glo "is_still", .glo "lack_with", .glo "part_of", .glo "_law_part_of", .glo "law", .free "isinstance", .free "all", .free "zip", .free "range", .free "min", .free "max", .free "len", .free "tuple", .free "list", .free "sorted", .free "enumerate", .free "sum", .free "any", .free "int", .free "abs", .free "set", .free "dict", .free "str", .free "bool"]
abbrev R : PySem.W.OpenRow := PySem.W.OpenLaw.row PySem.Challenge.rw_clubroom_k92_whole_partings_bars_counts
abbrev hk : PySem.W.Hook := He.hookD 2 fa fn
def ob (s : PySem.W.SharedT) : He.AlD := He.obsDG 2 fa fn (HandSHeadRun.getT s)
theorem ob_eq (s : PySem.W.SharedT) : ob s = hk.obs s.abs := He.obsDG_eq (HandSHeadRun.getT_eq s)
def loose : List Str := (prog.boundNames.filter fun n => n != ("law" : Str))
theorem run (w : World) : HandSHeadRun.RunEq R (PySem.W.view R.prog [95]) hk ob 3000 loose w := by
  intro os
  kernel_rfl
end P92

set_option Elab.async false
set_option linter.all false
set_option maxRecDepth 100000
set_option maxHeartbeats 1000000
namespace PW
open PySem PySem.Spec PyProof.Rows L2
abbrev Sg := L2.St

/-! ### plain data, predicate transformers -/
inductive D where
  | non | bl (b : Bool) | int (i : Int) | str (x : Str) | ty (n : String)
  | tup (xs : List D) | lst (xs : List D) | dK (kvs : List (Key × D)) | dT (kvs : List (List Key × D)) | rng (lo hi : Int)
  | fn (x : Str) | bag | scr

structure W (α : Type) where
  run : (α → Prop) → Prop
  mono : ∀ {P Q : α → Prop}, (∀ a, P a → Q a) → run P → run Q
namespace W
variable {α β : Type}
def pure (a : α) : W α := ⟨fun Q => Q a, fun h x => h _ x⟩
def bind (x : W α) (f : α → W β) : W β := ⟨fun Q => x.run fun a => (f a).run Q, fun h => x.mono fun a => (f a).mono h⟩
def fail : W α := ⟨fun _ => False, fun _ x => x⟩
def need (p : Prop) : W Unit := ⟨fun Q => p ∧ Q (), fun h x => ⟨x.1, h _ x.2⟩⟩
def some? : Option α → W α
  | some a => pure a
  | none => fail
/-- for some of these -/
def ex {ι : Type} (f : ι → W α) : W α := ⟨fun Q => ∃ i, (f i).run Q, fun h ⟨i, x⟩ => ⟨i, (f i).mono h x⟩⟩
/-- for all of these -/
def fa {ι : Type} (p : ι → Prop) (f : ι → α) : W α := ⟨fun Q => ∀ i, p i → Q (f i), fun h x i hi => h _ (x i hi)⟩
theorem run_pure (a : α) (Q : α → Prop) : (pure a).run Q = Q a := rfl
theorem run_bind (x : W α) (f : α → W β) (Q : β → Prop) : (bind x f).run Q = x.run fun a => (f a).run Q := rfl
theorem run_fail (Q : α → Prop) : (fail : W α).run Q = False := rfl
theorem run_need (p : Prop) (Q : Unit → Prop) : (need p).run Q = (p ∧ Q ()) := rfl
theorem run_some (a : α) (Q : α → Prop) : (some? (some a)).run Q = Q a := rfl
theorem run_none (Q : α → Prop) : (some? none).run Q = False := rfl
end W
abbrev Env := List (Option D)
inductive Out where
  | nx (ρ : Env) | rt (d : D) | bk (ρ : Env) | ct (ρ : Env)

/-! ### values and data -/
structure Z where
  f : Hp
  β : Addr → Prop
def keyD : Key → D
  | .inl i => .int i
  | .inr x => .str x
mutual
inductive Rp (K : PySem.W.Frag) (mg : Str → Option Value) (z : Z) : V → D → Prop
  | non : Rp K mg z .non .non
  | bl (b : Bool) : Rp K mg z (.bl b) (.bl b)
  | int (i : Int) : Rp K mg z (.int i) (.int i)
  | str (x : Str) : Rp K mg z (.str x) (.str x)
  | ty (n : String) : Rp K mg z (.ty n) (.ty n)
  | tup {a : Addr} {vs : List V} {ds : List D} : z.f a = some (.tup vs) → RpL K mg z vs ds → Rp K mg z (.ref a) (.tup ds)
  | lst {a : Addr} {vs : List V} {ds : List D} : z.f a = some (.lst vs) → RpL K mg z vs ds → Rp K mg z (.ref a) (.lst ds)
  | dK {a : Addr} {kvs : List (Key × V)} {ds : List (Key × D)} : z.f a = some (.dK kvs) → RpK K mg z kvs ds → Rp K mg z (.ref a) (.dK ds)
  | dT {a : Addr} {kvs : List (List Key × V)} {ds : List (List Key × D)} : z.f a = some (.dT kvs) → RpT K mg z kvs ds → Rp K mg z (.ref a) (.dT ds)
  | rng {a : Addr} {lo hi : Int} : z.f a = some (.rng lo hi) → Rp K mg z (.ref a) (.rng lo hi)
  | fn {x : Str} {a : Addr} : mg x = some (.ref a) → PySem.W.keepIn K (.ref a) = true → Rp K mg z (.ref a) (.fn x)
  | bag {a : Addr} : z.β a → Rp K mg z (.ref a) .bag
  | scr {a : Addr} {ns : List Int} : ns.length ≤ 63 → SqL K z.f a (ns.map V.int) → Rp K mg z (.ref a) .scr
inductive RpL (K : PySem.W.Frag) (mg : Str → Option Value) (z : Z) : List V → List D → Prop
  | nil : RpL K mg z [] []
  | cons {v : V} {vs : List V} {d : D} {ds : List D} : Rp K mg z v d → RpL K mg z vs ds → RpL K mg z (v :: vs) (d :: ds)
inductive RpK (K : PySem.W.Frag) (mg : Str → Option Value) (z : Z) : List (Key × V) → List (Key × D) → Prop
  | nil : RpK K mg z [] []
  | cons {k : Key} {v : V} {vs : List (Key × V)} {d : D} {ds : List (Key × D)} : Rp K mg z v d → RpK K mg z vs ds → RpK K mg z ((k, v) :: vs) ((k, d) :: ds)
inductive RpT (K : PySem.W.Frag) (mg : Str → Option Value) (z : Z) : List (List Key × V) → List (List Key × D) → Prop
  | nil : RpT K mg z [] []
  | cons {k : List Key} {v : V} {vs : List (List Key × V)} {d : D} {ds : List (List Key × D)} : Rp K mg z v d → RpT K mg z vs ds → RpT K mg z ((k, v) :: vs) ((k, d) :: ds)
end

/-! ### heaps -/
theorem Same.seqT {K : PySem.W.Frag} {H H' : Hp} {a : Addr} {xs : List V} (e : Same H H') (h : SqT K H a xs) : SqT K H' a xs := by
  rcases h with (h | ⟨o, h⟩) | h
  · exact .inl (.inl (e _ _ h))
  · exact .inl (.inr ⟨o, e _ _ h⟩)
  · exact .inr h
theorem Same.put {H : Hp} {p : Addr} {o : HO} (h : H p = none) : Same H (upd H p o) := fun b x e => by
  rw [upd_ne (ne_of_none e h)]
  exact e
/-- the lists and tuples that are read have their size -/
structure Fct (K : PySem.W.Frag) (H : Hp) : Prop where
  l : ∀ a xs, SqL K H a xs → xs.length ≤ sizeLine
  t : ∀ a xs, SqT K H a xs → xs.length ≤ sizeLine
theorem fct_of {X : Cx} {pins : List (Addr × Obj)} {σ : Sg} {H : Hp} {s : Shared} (I : Inv X pins σ H s) : Fct X.K H :=
  ⟨fun a xs h => (I.list h).choose_spec.2.2, fun a xs h => (I.tuple h).choose_spec.2.2⟩
/-- the bag of draws -/
def BagAt (K : PySem.W.Frag) (z : Z) (H : Hp) : Prop := ∀ a, z.β a → z.f a = none ∧
  ∃ (b0 b1 b2 : Int) (c : Addr) (cs : List Int), H a = some (.lst [.int b0, .int b1, .int b2, .ref c]) ∧ z.f c = some (.lst (cs.map V.int)) ∧ 0 ≤ b0 ∧ (0 ≤ b1 ∧ b1 < 2147483648) ∧ 0 ≤ b2 ∧ (∀ x ∈ cs, (0 : Int) ≤ x) ∧ cs.length ≤ 63
structure Z.le (z z' : Z) : Prop where
  f : Same z.f z'.f
  β : ∀ a, z.β a → z'.β a
theorem Z.le.refl (z : Z) : Z.le z z := ⟨Same.refl _, fun _ h => h⟩
theorem Z.le.trans {z1 z2 z3 : Z} (a : Z.le z1 z2) (b : Z.le z2 z3) : Z.le z1 z3 := ⟨a.f.trans b.f, fun x h => b.β x (a.β x h)⟩
structure ZOk (K : PySem.W.Frag) (z : Z) (H : Hp) : Prop where
  sub : Same z.f H
  bag : BagAt K z H
/-- no tuple -/
def _root_.L2.HO.nt : HO → Prop
  | .tup _ => False
  | _ => True
structure Step (K : PySem.W.Frag) (z : Z) (H : Hp) (z' : Z) (H' : Hp) : Prop where
  le : Z.le z z'
  ok : ZOk K z' H'
  keep : ∀ b o, ¬ z.β b → H b = some o → H' b = some o
  new : ∀ b o, z.f b = none → H b = some o → o.nt → z'.f b = none
  βn : ∀ b, z'.β b → z.β b ∨ H b = none
theorem Step.refl {K : PySem.W.Frag} {z : Z} {H : Hp} (h : ZOk K z H) : Step K z H z H := ⟨Z.le.refl z, h, fun _ _ _ h => h, fun _ _ h _ _ => h, fun _ h => .inl h⟩
theorem Step.trans {K : PySem.W.Frag} {z1 z2 z3 : Z} {H1 H2 H3 : Hp} (a : Step K z1 H1 z2 H2) (b : Step K z2 H2 z3 H3) : Step K z1 H1 z3 H3 := by
  have nb : ∀ x, ¬ z1.β x → H1 x ≠ none → ¬ z2.β x := fun x h1 h2 e => by
    rcases a.βn x e with e | e
    · exact h1 e
    · exact h2 e
  have there : ∀ x, H1 x ≠ none → H2 x ≠ none := fun x h => by
    by_cases hb : z1.β x
    · obtain ⟨_, _, _, _, _, _, e, _⟩ := a.ok.bag x (a.le.β x hb)
      rw [e]
      exact fun z => nomatch z
    · cases e : H1 x with
      | none => exact absurd e h
      | some o => rw [a.keep x o hb e]; exact fun z => nomatch z
  refine ⟨a.le.trans b.le, b.ok, fun x o h1 h2 => b.keep x o (nb x h1 (by rw [h2]; exact fun z => nomatch z)) (a.keep x o h1 h2), fun x o h1 h2 h3 => ?_, fun x e => ?_⟩
  · by_cases hb : z1.β x
    · exact (b.ok.bag x (b.le.β x (a.le.β x hb))).1
    · exact b.new x o (a.new x o h1 h2 h3) (a.keep x o hb h2) h3
  rcases b.βn x e with e | e
  · exact a.βn x e
  · refine .inr ?_
    cases q : H1 x with
    | none => rfl
    | some o => exact absurd e (there x (by rw [q]; exact fun z => nomatch z))
/-- a new object that is known from then on -/
def Z.put (z : Z) (p : Addr) (o : HO) : Z := ⟨upd z.f p o, z.β⟩
section
variable {K : PySem.W.Frag} {z z' : Z} {H H' : Hp} {p : Addr} {o : HO}
theorem ZOk.free (h : ZOk K z H) (hp : H p = none) : z.f p = none := h.sub.free hp
theorem ZOk.nβ (h : ZOk K z H) (hp : H p = none) : ¬ z.β p := fun e => by
  obtain ⟨_, _, _, _, _, _, q, _⟩ := h.bag p e
  rw [hp] at q
  cases q
theorem BagAt.keep (h : BagAt K z H) (le : Same z.f z'.f) (eβ : z'.β = z.β) (hf : ∀ a, z.β a → z'.f a = none) (hk : ∀ a o, z.β a → H a = some o → H' a = some o) : BagAt K z' H' := fun a e => by
  rw [eβ] at e
  obtain ⟨f0, b0, b1, b2, c, cs, h1, h2, h3⟩ := h a e
  exact ⟨hf a e, b0, b1, b2, c, cs, hk a _ e h1, le _ _ h2, h3⟩
theorem ZOk.fresh (h : ZOk K z H) (hp : H p = none) : ZOk K z (upd H p o) :=
  ⟨h.sub.trans (Same.put hp), h.bag.keep (Same.refl _) rfl (fun a e => (h.bag a e).1) fun a o' e q => Same.put hp a o' q⟩
theorem Step.fresh (h : ZOk K z H) (hp : H p = none) : Step K z H z (upd H p o) :=
  ⟨Z.le.refl z, h.fresh hp, fun b o' _ e => Same.put hp b o' e, fun b _ e _ _ => e, fun b e => .inl e⟩
theorem Step.put (h : ZOk K z H) (hp : H p = none) : Step K z H (z.put p o) (upd H p o) := by
  have hz := h.free hp
  refine ⟨⟨Same.put hz, fun _ e => e⟩, ⟨fun b x e => ?_, h.bag.keep (Same.put hz) rfl (fun a e => ?_) fun a o' e q => Same.put hp a o' q⟩, fun b o' _ e => Same.put hp b o' e, fun b o' e q _ => ?_, fun b e => .inl e⟩
  · by_cases hb : b = p
    · subst hb
      have e : upd z.f b o b = some x := e
      rw [upd_same] at e ⊢
      exact e
    · have e : upd z.f p o b = some x := e
      rw [upd_ne hb] at e ⊢
      exact h.sub b x e
  · show upd z.f p o a = none
    rw [upd_ne (by intro q; exact h.nβ hp (by rw [← q]; exact e))]
    exact (h.bag a e).1
  · show upd z.f p o b = none
    rw [upd_ne (fun x => by rw [x, hp] at q; cases q)]
    exact e
/-- what was owned is known from now on -/
theorem ZOk.freeze (h : ZOk K z H) (hp : z.f p = none) (hβ : ¬ z.β p) (ho : H p = some o) : ZOk K (z.put p o) H := by
  refine ⟨fun b x e => ?_, h.bag.keep (Same.put hp) rfl (fun a e => ?_) fun a o' e q => q⟩
  · by_cases hb : b = p
    · subst hb
      have e : upd z.f b o b = some x := e
      rw [upd_same] at e
      rw [ho, e]
    · have e : upd z.f p o b = some x := e
      rw [upd_ne hb] at e
      exact h.sub b x e
  · show upd z.f p o a = none
    rw [upd_ne (by intro q; exact hβ (by rw [← q]; exact e))]
    exact (h.bag a e).1
theorem Z.le_put (hp : z.f p = none) : Z.le z (z.put p o) := ⟨Same.put hp, fun _ e => e⟩
theorem Z.put_at : (z.put p o).f p = some o := upd_same
end

/-! ### Rp grows with the world -/
section
variable {K : PySem.W.Frag} {mg : Str → Option Value} {z z' : Z}
mutual
theorem Rp.le (l : Z.le z z') : ∀ {v : V} {d : D}, Rp K mg z v d → Rp K mg z' v d
  | _, _, .non => .non
  | _, _, .bl b => .bl b
  | _, _, .int b => .int b
  | _, _, .str b => .str b
  | _, _, .ty b => .ty b
  | _, _, .tup h r => .tup (l.f _ _ h) (RpL.le l r)
  | _, _, .lst h r => .lst (l.f _ _ h) (RpL.le l r)
  | _, _, .dK h r => .dK (l.f _ _ h) (RpK.le l r)
  | _, _, .dT h r => .dT (l.f _ _ h) (RpT.le l r)
  | _, _, .rng h => .rng (l.f _ _ h)
  | _, _, .fn h k => .fn h k
  | _, _, .bag h => .bag (l.β _ h)
  | _, _, .scr n h => .scr n (l.f.seq h)
theorem RpL.le (l : Z.le z z') : ∀ {v : List V} {d : List D}, RpL K mg z v d → RpL K mg z' v d
  | _, _, .nil => .nil
  | _, _, .cons h r => .cons (Rp.le l h) (RpL.le l r)
theorem RpK.le (l : Z.le z z') : ∀ {v : List (Key × V)} {d : List (Key × D)}, RpK K mg z v d → RpK K mg z' v d
  | _, _, .nil => .nil
  | _, _, .cons h r => .cons (Rp.le l h) (RpK.le l r)
theorem RpT.le (l : Z.le z z') : ∀ {v : List (List Key × V)} {d : List (List Key × D)}, RpT K mg z v d → RpT K mg z' v d
  | _, _, .nil => .nil
  | _, _, .cons h r => .cons (Rp.le l h) (RpT.le l r)
end
theorem RpL.length : ∀ {v : List V} {d : List D}, RpL K mg z v d → v.length = d.length
  | _, _, .nil => rfl
  | _, _, .cons _ r => by rw [List.length_cons, List.length_cons, RpL.length r]
theorem RpL.get : ∀ {v : List V} {d : List D} {i : Nat} {x : D}, RpL K mg z v d → d[i]? = some x → ∃ y, v[i]? = some y ∧ Rp K mg z y x
  | _, _, _, _, .nil, e => by simp at e
  | _, _, 0, _, .cons h _, e => by simp at e; subst e; exact ⟨_, rfl, h⟩
  | _, _, i + 1, _, .cons _ r, e => by simpa using RpL.get (i := i) r (by simpa using e)
theorem RpL.getV : ∀ {v : List V} {d : List D} {i : Nat} {y : V}, RpL K mg z v d → v[i]? = some y → ∃ x, d[i]? = some x ∧ Rp K mg z y x
  | _, _, _, _, .nil, e => by simp at e
  | _, _, 0, _, .cons h _, e => by simp at e; subst e; exact ⟨_, rfl, h⟩
  | _, _, i + 1, _, .cons _ r, e => by simpa using RpL.getV (i := i) r (by simpa using e)
theorem RpL.append : ∀ {v w : List V} {d e : List D}, RpL K mg z v d → RpL K mg z w e → RpL K mg z (v ++ w) (d ++ e)
  | _, _, _, _, .nil, s => s
  | _, _, _, _, .cons h r, s => .cons h (RpL.append r s)
theorem RpL.take : ∀ {v : List V} {d : List D} (n : Nat), RpL K mg z v d → RpL K mg z (v.take n) (d.take n)
  | _, _, 0, _ => .nil
  | _, _, _ + 1, .nil => .nil
  | _, _, n + 1, .cons h r => .cons h (RpL.take n r)
theorem RpL.drop : ∀ {v : List V} {d : List D} (n : Nat), RpL K mg z v d → RpL K mg z (v.drop n) (d.drop n)
  | _, _, 0, r => r
  | _, _, _ + 1, .nil => .nil
  | _, _, n + 1, .cons _ r => RpL.drop n r
theorem RpL.reverse : ∀ {v : List V} {d : List D}, RpL K mg z v d → RpL K mg z v.reverse d.reverse
  | _, _, .nil => .nil
  | _, _, .cons h r => by rw [List.reverse_cons, List.reverse_cons]; exact (RpL.reverse r).append (.cons h .nil)
theorem RpL.nil_of {v : List V} (h : RpL K mg z v []) : v = [] := by cases h; rfl
end

/-! ### the content of an object; owned and read -/
/-- what an object holds, its parts known -/
inductive Cont (K : PySem.W.Frag) (mg : Str → Option Value) (z : Z) : HO → D → Prop
  | lst {vs : List V} {ds : List D} : RpL K mg z vs ds → Cont K mg z (.lst vs) (.lst ds)
  | dK {kvs : List (Key × V)} {ds : List (Key × D)} : RpK K mg z kvs ds → Cont K mg z (.dK kvs) (.dK ds)
  | dT {kvs : List (List Key × V)} {ds : List (List Key × D)} : RpT K mg z kvs ds → Cont K mg z (.dT kvs) (.dT ds)
theorem Cont.nt {K : PySem.W.Frag} {mg : Str → Option Value} {z : Z} {o : HO} {d : D} : Cont K mg z o d → o.nt
  | .lst _ => trivial
  | .dK _ => trivial
  | .dT _ => trivial
theorem Cont.le {K : PySem.W.Frag} {mg : Str → Option Value} {z z' : Z} (l : Z.le z z') {o : HO} {d : D} : Cont K mg z o d → Cont K mg z' o d
  | .lst r => .lst (RpL.le l r)
  | .dK r => .dK (RpK.le l r)
  | .dT r => .dT (RpT.le l r)
theorem Cont.rp {K : PySem.W.Frag} {mg : Str → Option Value} {z : Z} {a : Addr} {o : HO} {d : D} (h : z.f a = some o) (c : Cont K mg z o d) : Rp K mg z (.ref a) d := by
  cases c with
  | lst r => exact .lst h r
  | dK r => exact .dK h r
  | dT r => exact .dT h r
/-- read now: known, or an object as it stands -/
def RB (K : PySem.W.Frag) (mg : Str → Option Value) (z : Z) (H : Hp) (v : V) (d : D) : Prop :=
  Rp K mg z v d ∨ ∃ a o, v = .ref a ∧ ¬ z.β a ∧ H a = some o ∧ Cont K mg z o d
theorem RB.step {K : PySem.W.Frag} {mg : Str → Option Value} {z z' : Z} {H H' : Hp} {v : V} {d : D} (s : Step K z H z' H') (h : RB K mg z H v d) : RB K mg z' H' v d := by
  rcases h with h | ⟨a, o, e, b, q, c⟩
  · exact .inl (h.le s.le)
  · refine .inr ⟨a, o, e, fun x => ?_, s.keep a o b q, c.le s.le⟩
    rcases s.βn a x with x | x
    · exact b x
    · rw [q] at x; cases x
section
variable {K : PySem.W.Frag} {mg : Str → Option Value} {z : Z} {H : Hp} {v : V}
theorem RB.lst {ds : List D} (s : ZOk K z H) (h : RB K mg z H v (.lst ds)) : ∃ a vs, v = .ref a ∧ H a = some (.lst vs) ∧ RpL K mg z vs ds := by
  rcases h with h | ⟨a, o, e, b, q, c⟩
  · cases h with
    | lst h r => exact ⟨_, _, rfl, s.sub _ _ h, r⟩
  · cases c with
    | lst r => exact ⟨a, _, e, q, r⟩
theorem RB.tup {ds : List D} (s : ZOk K z H) (h : RB K mg z H v (.tup ds)) : ∃ a vs, v = .ref a ∧ H a = some (.tup vs) ∧ RpL K mg z vs ds := by
  rcases h with h | ⟨a, o, e, b, q, c⟩
  · cases h with
    | tup h r => exact ⟨_, _, rfl, s.sub _ _ h, r⟩
  · cases c
theorem RB.dK {ds : List (Key × D)} (s : ZOk K z H) (h : RB K mg z H v (.dK ds)) : ∃ a kvs, v = .ref a ∧ H a = some (.dK kvs) ∧ RpK K mg z kvs ds := by
  rcases h with h | ⟨a, o, e, b, q, c⟩
  · cases h with
    | dK h r => exact ⟨_, _, rfl, s.sub _ _ h, r⟩
  · cases c with
    | dK r => exact ⟨a, _, e, q, r⟩
theorem RB.dT {ds : List (List Key × D)} (s : ZOk K z H) (h : RB K mg z H v (.dT ds)) : ∃ a kvs, v = .ref a ∧ H a = some (.dT kvs) ∧ RpT K mg z kvs ds := by
  rcases h with h | ⟨a, o, e, b, q, c⟩
  · cases h with
    | dT h r => exact ⟨_, _, rfl, s.sub _ _ h, r⟩
  · cases c with
    | dT r => exact ⟨a, _, e, q, r⟩
theorem RB.int {i : Int} (h : RB K mg z H v (.int i)) : v = .int i := by
  rcases h with h | ⟨a, o, e, b, q, c⟩
  · cases h; rfl
  · cases c
theorem RB.bl {i : Bool} (h : RB K mg z H v (.bl i)) : v = .bl i := by
  rcases h with h | ⟨a, o, e, b, q, c⟩
  · cases h; rfl
  · cases c
theorem RB.str {i : Str} (h : RB K mg z H v (.str i)) : v = .str i := by
  rcases h with h | ⟨a, o, e, b, q, c⟩
  · cases h; rfl
  · cases c
theorem RB.non (h : RB K mg z H v .non) : v = .non := by
  rcases h with h | ⟨a, o, e, b, q, c⟩
  · cases h; rfl
  · cases c
theorem RB.ty {n : String} (h : RB K mg z H v (.ty n)) : v = .ty n := by
  rcases h with h | ⟨a, o, e, b, q, c⟩
  · cases h; rfl
  · cases c
theorem RB.rng {lo hi : Int} (s : ZOk K z H) (h : RB K mg z H v (.rng lo hi)) : ∃ a, v = .ref a ∧ H a = some (.rng lo hi) := by
  rcases h with h | ⟨a, o, e, b, q, c⟩
  · cases h with
    | rng h => exact ⟨_, rfl, s.sub _ _ h⟩
  · cases c
end

/-! ### what is fixed of a def: its names, scope, the slots that hold objects of its own, the table of defs -/
structure Fix where
  N : List Str
  sc : Scope
  fn : Str → Bool
  mt : List Nat
/-- an object of the def's own -/
def Own (K : PySem.W.Frag) (mg : Str → Option Value) (H0 : Hp) (z : Z) (H : Hp) (v : V) (d : D) : Prop :=
  ∃ a o, v = .ref a ∧ z.f a = none ∧ H0 a = none ∧ ¬ z.β a ∧ H a = some o ∧ Cont K mg z o d
theorem Own.step {K : PySem.W.Frag} {mg : Str → Option Value} {H0 : Hp} {z z' : Z} {H H' : Hp} {v : V} {d : D} (s : Step K z H z' H') (h : Own K mg H0 z H v d) : Own K mg H0 z' H' v d := by
  obtain ⟨a, o, e, f0, h0, b, q, c⟩ := h
  refine ⟨a, o, e, s.new a o f0 q c.nt, h0, fun x => ?_, s.keep a o b q, c.le s.le⟩
  rcases s.βn a x with x | x
  · exact b x
  · rw [q] at x; cases x
theorem Own.rb {K : PySem.W.Frag} {mg : Str → Option Value} {H0 : Hp} {z : Z} {H : Hp} {v : V} {d : D} (h : Own K mg H0 z H v d) : RB K mg z H v d := by
  obtain ⟨a, o, e, f0, h0, b, q, c⟩ := h
  exact .inr ⟨a, o, e, b, q, c⟩
structure EnvR (mt : List Nat) (K : PySem.W.Frag) (mg : Str → Option Value) (z0 : Z) (H0 : Hp) (z : Z) (H : Hp) (σ : Sg) (ρ : Env) : Prop where
  st : Step K z0 H0 z H
  len : ρ.length = σ.length
  val : ∀ i d, i ∉ mt → ρ[i]? = some (some d) → ∃ v, σ[i]? = some (some v) ∧ Rp K mg z v d
  own : ∀ i d, i ∈ mt → ρ[i]? = some (some d) → ∃ v, σ[i]? = some (some v) ∧ Own K mg H0 z H v d
  apart : ∀ i j d e, i ∈ mt → j ∈ mt → i ≠ j → ρ[i]? = some (some d) → ρ[j]? = some (some e) → σ[i]? ≠ σ[j]?
section
variable {mt : List Nat} {K : PySem.W.Frag} {mg : Str → Option Value} {z0 z z' : Z} {H0 H H' : Hp} {σ : Sg} {ρ : Env}
theorem EnvR.step (E : EnvR mt K mg z0 H0 z H σ ρ) (s : Step K z H z' H') : EnvR mt K mg z0 H0 z' H' σ ρ :=
  ⟨E.st.trans s, E.len, fun i d hi e => let ⟨v, a, b⟩ := E.val i d hi e; ⟨v, a, b.le s.le⟩, fun i d hi e => let ⟨v, a, b⟩ := E.own i d hi e; ⟨v, a, b.step s⟩, E.apart⟩
theorem EnvR.ok (E : EnvR mt K mg z0 H0 z H σ ρ) : ZOk K z H := E.st.ok
/-- a known value into a slot of values -/
theorem EnvR.set (E : EnvR mt K mg z0 H0 z H σ ρ) {i : Nat} {v : V} {d : D} (hi : i ∉ mt) (r : Rp K mg z v d) : EnvR mt K mg z0 H0 z H (σ.set i (some v)) (ρ.set i (some d)) := by
  refine ⟨E.st, by rw [List.length_set, List.length_set]; exact E.len, fun j e hj q => ?_, fun j e hj q => ?_, fun j k d e hj hk hjk q q' => ?_⟩
  · by_cases h : i = j
    · subst h
      by_cases hl : i < ρ.length
      · rw [List.getElem?_set_self hl] at q
        cases q
        exact ⟨v, List.getElem?_set_self (by rw [← E.len]; exact hl), r⟩
      · rw [List.getElem?_eq_none (by rw [List.length_set]; omega)] at q
        cases q
    · rw [List.getElem?_set_ne h] at q ⊢
      exact E.val j e hj q
  · have h : i ≠ j := fun x => hi (x ▸ hj)
    rw [List.getElem?_set_ne h] at q ⊢
    exact E.own j e hj q
  · have h : i ≠ j := fun x => hi (x ▸ hj)
    have h' : i ≠ k := fun x => hi (x ▸ hk)
    rw [List.getElem?_set_ne h] at q ⊢
    rw [List.getElem?_set_ne h'] at q' ⊢
    exact E.apart j k d e hj hk hjk q q'
/-- slots forgotten -/
theorem EnvR.unset (E : EnvR mt K mg z0 H0 z H σ ρ) (i : Nat) : EnvR mt K mg z0 H0 z H σ (ρ.set i none) := by
  have key : ∀ {j : Nat} {d : D}, (ρ.set i none)[j]? = some (some d) → ρ[j]? = some (some d) := fun {j d} q => by
    by_cases h : i = j
    · subst h
      by_cases hl : i < ρ.length
      · rw [List.getElem?_set_self hl] at q; cases q
      · rw [List.getElem?_eq_none (by rw [List.length_set]; omega)] at q; cases q
    · rw [List.getElem?_set_ne h] at q; exact q
  exact ⟨E.st, by rw [List.length_set]; exact E.len, fun j d hj q => E.val j d hj (key q), fun j d hj q => E.own j d hj (key q), fun j k d e hj hk hjk q q' => E.apart j k d e hj hk hjk (key q) (key q')⟩
end
end PW

set_option Elab.async false
set_option linter.all false
set_option maxRecDepth 100000
set_option maxHeartbeats 1000000
namespace PW
open PySem PySem.Spec PyProof.Rows L2

/-! ### readings that speak of data -/
section
variable (K : PySem.W.Frag) (mg : Str → Option Value)
/-- behind an expression: a known value -/
def kV (z : Z) (H : Hp) (Q : VK) : D → Prop := fun d => ∀ v z' H', Step K z H z' H' → Fct K H' → Rp K mg z' v d → Q v H'
/-- .. a value to be used up at once -/
def kB (z : Z) (H : Hp) (Q : VK) : D → Prop := fun d => ∀ v z' H', Step K z H z' H' → Fct K H' → RB K mg z' H' v d → Q v H'
/-- .. a new object that nobody knows -/
def kF (z : Z) (H : Hp) (Q : VK) : D → Prop := fun d => ∀ a o z' H', Step K z H z' H' → Fct K H' → H a = none → z'.f a = none → ¬ z'.β a → H' a = some o → Cont K mg z' o d → Q (.ref a) H'
def kT (z : Z) (H : Hp) (Q : Bool → Hp → Prop) : Bool → Prop := fun b => ∀ z' H', Step K z H z' H' → Fct K H' → Q b H'
inductive RBs (z : Z) (H : Hp) : List V → List D → Prop
  | nil : RBs z H [] []
  | cons {v : V} {vs : List V} {d : D} {ds : List D} : RB K mg z H v d → RBs z H vs ds → RBs z H (v :: vs) (d :: ds)
def kAV (z : Z) (H : Hp) (Q : List V → Hp → Prop) : List D → Prop := fun ds => ∀ vs z' H', Step K z H z' H' → Fct K H' → RpL K mg z' vs ds → Q vs H'
def kAB (z : Z) (H : Hp) (Q : List V → Hp → Prop) : List D → Prop := fun ds => ∀ vs z' H', Step K z H z' H' → Fct K H' → RBs K mg z' H' vs ds → Q vs H'
variable (mt : List Nat)
def tV (f : Env → W D) : TE := fun σ H Q => ∃ z0 H0 z ρ, EnvR mt K mg z0 H0 z H σ ρ ∧ (f ρ).run (kV K mg z H Q)
def tBr (f : Env → W D) : TE := fun σ H Q => ∃ z0 H0 z ρ, EnvR mt K mg z0 H0 z H σ ρ ∧ (f ρ).run (kB K mg z H Q)
def tFr (f : Env → W D) : TE := fun σ H Q => ∃ z0 H0 z ρ, EnvR mt K mg z0 H0 z H σ ρ ∧ (f ρ).run (kF K mg z H Q)
def tTs (f : Env → W Bool) : TT := fun σ H Q => ∃ z0 H0 z ρ, EnvR mt K mg z0 H0 z H σ ρ ∧ (f ρ).run (kT K z H Q)
def tAv (f : Env → W (List D)) : TA := fun σ H Q => ∃ z0 H0 z ρ, EnvR mt K mg z0 H0 z H σ ρ ∧ (f ρ).run (kAV K mg z H Q)
def tAb (f : Env → W (List D)) : TA := fun σ H Q => ∃ z0 H0 z ρ, EnvR mt K mg z0 H0 z H σ ρ ∧ (f ρ).run (kAB K mg z H Q)
/-- a def's promise -/
def spW (Φ : List D → W D) : Sp := fun vs H Q _ => ∃ z ds, ZOk K z H ∧ RpL K mg z vs ds ∧ (Φ ds).run (kV K mg z H Q)
end

/-! ### what is fixed -/
abbrev Tab := List (Str × (List D → W D))
structure TabOk (P : Program) (w : World) (K : PySem.W.Frag) (mg : Str → Option Value) (base : Heap) (lv : Nat) (T : Tab) : Prop where
  at_ : ∀ x Φ, (x, Φ) ∈ T → ∃ f, mg x = some (.ref f) ∧ PySem.W.keepIn K (.ref f) = true ∧ FnR P w K mg base CX0 lv f (spW K mg Φ)
structure Mo where
  T : Tab
  lv : Nat
  free : List Str
  con : List (Str × D)
structure Good (M : Mo) (S : Fix) (X : Cx) : Prop where
  N : X.N = S.N
  nd : S.N.Nodup
  sc : X.env.scope = S.sc
  fn : X.fn = S.fn
  calm : X.calm = true
  xe : X.xe = fun _ _ => False
  tab : TabOk X.prog X.w X.K X.mg X.base M.lv M.T
  room : Room M.lv X.A
  free : ∀ x ∈ M.free, X.mg x = none
  con : ∀ x d, (x, d) ∈ M.con → ∃ v u, X.mg x = some u ∧ RelV v u ∧ ∀ z, Rp X.K X.mg z v d

/-- looks at a scope -/
def visC (sc : Scope) (x : Str) : Bool := match sc.names.lookup x with
  | some .local => true
  | some .cell => true
  | some .free => true
  | _ => false
theorem vis_of {sc : Scope} {x : Str} (h : visC sc x = true) : Vis sc x := by
  unfold visC at h
  split at h
  · exact .inl (by assumption)
  · exact .inr (.inl (by assumption))
  · exact .inr (.inr (by assumption))
  · cases h
def locC (sc : Scope) (x : Str) : Bool := match sc.names.lookup x with
  | some .local => true
  | some .cell => true
  | _ => false
theorem loc_of {sc : Scope} {x : Str} (h : locC sc x = true) : Loc sc x := by
  unfold locC at h
  split at h
  · exact .inl (by assumption)
  · exact .inr (by assumption)
  · cases h
def fnC (S : Fix) (x : Str) : Bool := S.fn x || decide (S.sc.names.lookup x = some .local)
theorem fnC_of {S : Fix} {x : Str} (h : fnC S x = true) : S.fn x = true ∨ S.sc.names.lookup x = some .local := by
  unfold fnC at h
  rw [Bool.or_eq_true, decide_eq_true_eq] at h
  exact h
def EvV (M : Mo) (S : Fix) (e : Expr) (f : Env → W D) : Prop := ∀ X, Good M S X → PE X e (tV X.K X.mg S.mt f)
def EvB (M : Mo) (S : Fix) (e : Expr) (f : Env → W D) : Prop := ∀ X, Good M S X → PE X e (tBr X.K X.mg S.mt f)
def EvF (M : Mo) (S : Fix) (e : Expr) (f : Env → W D) : Prop := ∀ X, Good M S X → PE X e (tFr X.K X.mg S.mt f)
def EvT (M : Mo) (S : Fix) (e : Expr) (f : Env → W Bool) : Prop := ∀ X, Good M S X → PT X e (tTs X.K X.mg S.mt f)
def EvTW (M : Mo) (S : Fix) (e : Expr) (f : Env → W Bool) : Prop := ∀ X, Good M S X → PW X e (tTs X.K X.mg S.mt f)
def EvAV (M : Mo) (S : Fix) (es : List Expr) (f : Env → W (List D)) : Prop := ∀ X, Good M S X → PA X es (tAv X.K X.mg S.mt f)
def EvAB (M : Mo) (S : Fix) (es : List Expr) (f : Env → W (List D)) : Prop := ∀ X, Good M S X → PA X es (tAb X.K X.mg S.mt f)

/-! ### weaker readings, with sizes known -/
section
variable {X : Cx}
theorem _root_.L2.PE.impW {e : Expr} {t t' : TE} (h : PE X e t) (hi : ∀ σ H Q, Fct X.K H → t' σ H Q → t σ H (fun v H' => Fct X.K H' → Q v H')) : PE X e t' :=
  ⟨fun pins s σ H Q I hw => thn (h.run pins s σ H _ I (hi σ H Q (fct_of I) hw)) fun _ _ ⟨v, H', I', r, q⟩ => ⟨v, H', I', r, q (fct_of I')⟩⟩
theorem _root_.L2.PT.impW {e : Expr} {t t' : TT} (h : PT X e t) (hi : ∀ σ H Q, Fct X.K H → t' σ H Q → t σ H (fun v H' => Fct X.K H' → Q v H')) : PT X e t' :=
  ⟨fun pins s σ H Q I hw => thn (h.run pins s σ H _ I (hi σ H Q (fct_of I) hw)) fun _ _ ⟨H', I', q⟩ => ⟨H', I', q (fct_of I')⟩⟩
theorem PWi {e : Expr} {t t' : TT} (h : PW X e t) (hi : ∀ σ H Q, Fct X.K H → t' σ H Q → t σ H (fun v H' => Fct X.K H' → Q v H')) : PW X e t' :=
  ⟨fun whole pins s σ H Q I hw => thn (h.run whole pins s σ H _ I (hi σ H Q (fct_of I) hw)) fun _ _ ⟨H', I', q⟩ => ⟨H', I', q (fct_of I')⟩⟩
theorem _root_.L2.PA.impW {es : List Expr} {t t' : TA} (h : PA X es t) (hi : ∀ σ H Q, Fct X.K H → t' σ H Q → t σ H (fun v H' => Fct X.K H' → Q v H')) : PA X es t' :=
  ⟨fun pos pins s σ H Q I hw => thn (h.run pos pins s σ H _ I (hi σ H Q (fct_of I) hw)) fun _ _ ⟨v, H', I', r, q⟩ => ⟨v, H', I', r, q (fct_of I')⟩⟩
end

section
variable {M : Mo} {S : Fix} {e a b c : Expr} {es : List Expr} {f g h : Env → W D} {pos : Pos}
theorem EvV.toB (he : EvV M S e f) : EvB M S e f := fun X G => (he X G).impW fun σ H Q _ ⟨z0, H0, z, ρ, E, h⟩ =>
  ⟨z0, H0, z, ρ, E, (f ρ).mono (fun d k v z' H' st fc r _ => k v z' H' st fc (.inl r)) h⟩
theorem EvF.toV (he : EvF M S e f) : EvV M S e f := fun X G => (he X G).impW fun σ H Q _ ⟨z0, H0, z, ρ, E, h⟩ =>
  ⟨z0, H0, z, ρ, E, (f ρ).mono (fun d k a o z' H' st fc hn hf hβ ho c _ => by
    have ok := st.ok.freeze hf hβ ho
    refine k (.ref a) (z'.put a o) H' ⟨st.le.trans (Z.le_put hf), ok, st.keep, fun x o' h1 h2 h3 => ?_, fun x e => st.βn x e⟩ fc ((c.le (Z.le_put hf)).rp Z.put_at)
    show upd z'.f a o x = none
    rw [upd_ne (fun q => by rw [q, hn] at h2; cases h2)]
    exact st.new x o' h1 h2 h3) h⟩
theorem ev_never : EvV M S e fun _ => W.fail := fun X G => ⟨fun _ _ _ _ _ _ ⟨_, _, _, _, _, h⟩ => (show False from h).elim⟩

/-! ### names, constants -/
def getV (ρ : Env) (i : Nat) : W D := W.some? (ρ[i]?.join)
theorem getV_run {ρ : Env} {i : Nat} {Q : D → Prop} (h : (getV ρ i).run Q) : ∃ d, ρ[i]? = some (some d) ∧ Q d := by
  unfold getV at h
  cases q : ρ[i]? with
  | none => rw [q] at h; exact (show False from h).elim
  | some o =>
    rw [q] at h
    cases o with
    | none => exact (show False from h).elim
    | some d => exact ⟨d, rfl, h⟩
theorem v_var (i : Nat) {x : Str} (hN : S.N[i]? = some x := by kernel_rfl) (hv : visC S.sc x = true := by kernel_rfl) (hi : S.mt.contains i = false := by kernel_rfl)
    (hd : (x == ("__debug__" : Str)) = false := by kernel_rfl) (hcd : (x == ("__classdict__" : Str)) = false := by kernel_rfl) : EvV M S (.Name x pos) (fun ρ => getV ρ i) := fun X G => by
  refine (pe_var (i := i) (by rw [G.N]; exact hN) (by rw [G.sc]; exact vis_of hv) hd hcd).impW fun σ H Q fc ⟨z0, H0, z, ρ, E, h⟩ => ?_
  obtain ⟨d, e, k⟩ := getV_run h
  obtain ⟨v, e2, r⟩ := E.val i d (fun m => by rw [List.contains_iff_mem.mpr m] at hi; cases hi) e
  exact ⟨v, e2, fun _ => k v z H (Step.refl E.ok) fc r⟩
theorem b_var (i : Nat) {x : Str} (hN : S.N[i]? = some x := by kernel_rfl) (hv : visC S.sc x = true := by kernel_rfl)
    (hd : (x == ("__debug__" : Str)) = false := by kernel_rfl) (hcd : (x == ("__classdict__" : Str)) = false := by kernel_rfl) : EvB M S (.Name x pos) (fun ρ => getV ρ i) := fun X G => by
  refine (pe_var (i := i) (by rw [G.N]; exact hN) (by rw [G.sc]; exact vis_of hv) hd hcd).impW fun σ H Q fc ⟨z0, H0, z, ρ, E, h⟩ => ?_
  obtain ⟨d, e, k⟩ := getV_run h
  by_cases hi : i ∈ S.mt
  · obtain ⟨v, e2, r⟩ := E.own i d hi e
    exact ⟨v, e2, fun _ => k v z H (Step.refl E.ok) fc r.rb⟩
  · obtain ⟨v, e2, r⟩ := E.val i d hi e
    exact ⟨v, e2, fun _ => k v z H (Step.refl E.ok) fc (.inl r)⟩
theorem v_int {i : Int} {j : Nat} : EvV M S (.Constant (.int i) j pos) (fun _ => W.pure (.int i)) := fun X G => pe_int.impW fun σ H Q fc ⟨z0, H0, z, ρ, E, h⟩ => fun _ => h _ z H (Step.refl E.ok) fc (.int i)
theorem v_bl {i : Bool} {j : Nat} : EvV M S (.Constant (.bool i) j pos) (fun _ => W.pure (.bl i)) := fun X G => pe_bl.impW fun σ H Q fc ⟨z0, H0, z, ρ, E, h⟩ => fun _ => h _ z H (Step.refl E.ok) fc (.bl i)
theorem v_non {j : Nat} : EvV M S (.Constant .none j pos) (fun _ => W.pure .non) := fun X G => pe_non.impW fun σ H Q fc ⟨z0, H0, z, ρ, E, h⟩ => fun _ => h _ z H (Step.refl E.ok) fc .non
theorem v_str {i : Str} {j : Nat} : EvV M S (.Constant (.str i) j pos) (fun _ => W.pure (.str i)) := fun X G => pe_str.impW fun σ H Q fc ⟨z0, H0, z, ρ, E, h⟩ => fun _ => h _ z H (Step.refl E.ok) fc (.str i)
theorem gl_of {X : Cx} (G : Good M S X) {x : Str} (h : S.sc.names.lookup x = some .globalImplicit) : Gl X x := by
  show X.env.scope.names.lookup x = _
  rw [G.sc]
  exact h
/-- a constant of the module, a def of it as a value -/
theorem v_con {x : Str} {d : D} (j : Nat) (hc : M.con[j]? = some (x, d) := by rfl) (hg : S.sc.names.lookup x = some .globalImplicit := by kernel_rfl) (hd : (x == ("__debug__" : Str)) = false := by kernel_rfl) : EvV M S (.Name x pos) (fun _ => W.pure d) := fun X G => by
  obtain ⟨v, u, hm, r, hr⟩ := G.con x d (List.mem_of_getElem? hc)
  exact (pe_glob (gl_of G hg) hm r hd).impW fun σ H Q fc ⟨z0, H0, z, ρ, E, h⟩ => fun _ => h v z H (Step.refl E.ok) fc (hr z)
theorem v_fn {x : Str} (j : Nat) (Φ : List D → W D) (hT : M.T[j]? = some (x, Φ) := by rfl) (hg : S.sc.names.lookup x = some .globalImplicit := by kernel_rfl) (hd : (x == ("__debug__" : Str)) = false := by kernel_rfl) : EvV M S (.Name x pos) (fun _ => W.pure (.fn x)) := fun X G => by
  obtain ⟨f, hm, hk, _⟩ := G.tab.at_ x Φ (List.mem_of_getElem? hT)
  exact (pe_glob (gl_of G hg) hm (v := V.ref f) rfl hd).impW fun σ H Q fc ⟨z0, H0, z, ρ, E, h⟩ => fun _ => h _ z H (Step.refl E.ok) fc (.fn hm hk)
theorem v_ty {x : Str} {T : String} (hf : decide (x ∈ M.free) = true := by kernel_rfl) (hv : bootBuiltins x = some (.type T) := by kernel_rfl) (hg : S.sc.names.lookup x = some .globalImplicit := by kernel_rfl) (hn : decide (x ≠ "__name__") = true := by kernel_rfl)
    (hd : (x == ("__debug__" : Str)) = false := by kernel_rfl) : EvV M S (.Name x pos) (fun _ => W.pure (.ty T)) := fun X G =>
  (pe_bltn (gl_of G hg) (G.free x (of_decide_eq_true hf)) hv (v := V.ty T) rfl (of_decide_eq_true hn) hd).impW fun σ H Q fc ⟨z0, H0, z, ρ, E, h⟩ => fun _ => h _ z H (Step.refl E.ok) fc (.ty T)

/-! ### argument lists -/
variable {fs : Env → W (List D)}
theorem RBs.step {K : PySem.W.Frag} {mg : Str → Option Value} {z z' : Z} {H H' : Hp} (s : Step K z H z' H') : ∀ {v : List V} {d : List D}, RBs K mg z H v d → RBs K mg z' H' v d
  | _, _, .nil => .nil
  | _, _, .cons h r => .cons (h.step s) (RBs.step s r)
theorem RpL.rbs {K : PySem.W.Frag} {mg : Str → Option Value} {z : Z} {H : Hp} : ∀ {v : List V} {d : List D}, RpL K mg z v d → RBs K mg z H v d
  | _, _, .nil => .nil
  | _, _, .cons h r => .cons (.inl h) (RpL.rbs r)
theorem av_nil : EvAV M S [] fun _ => W.pure [] := fun X G => pa_nil.impW fun σ H Q fc ⟨z0, H0, z, ρ, E, h⟩ => fun _ => h [] z H (Step.refl E.ok) fc .nil
theorem ab_nil : EvAB M S [] fun _ => W.pure [] := fun X G => pa_nil.impW fun σ H Q fc ⟨z0, H0, z, ρ, E, h⟩ => fun _ => h [] z H (Step.refl E.ok) fc .nil
theorem av_cons (he : EvV M S e f) (hs : EvAV M S es fs) (hst : ∀ env, starEach (e :: es) env = (false, eval e env) :: starEach es env := by intro _; kernel_rfl) : EvAV M S (e :: es) fun ρ => (f ρ).bind fun d => (fs ρ).bind fun ds => W.pure (d :: ds) := fun X G => by
  refine (pa_cons (he X G) (hs X G) (hst _)).impW fun σ H Q fc ⟨z0, H0, z, ρ, E, h⟩ => ?_
  refine ⟨z0, H0, z, ρ, E, (f ρ).mono (fun d k v z1 H1 st1 fc1 r1 => ?_) h⟩
  refine ⟨z0, H0, z1, ρ, E.step st1, (fs ρ).mono (fun ds k2 vs z2 H2 st2 fc2 r2 => ?_) k⟩
  exact fun _ => k2 (v :: vs) z2 H2 (st1.trans st2) fc2 (.cons (r1.le st2.le) r2)
theorem ab_cons (he : EvB M S e f) (hs : EvAB M S es fs) (hst : ∀ env, starEach (e :: es) env = (false, eval e env) :: starEach es env := by intro _; kernel_rfl) : EvAB M S (e :: es) fun ρ => (f ρ).bind fun d => (fs ρ).bind fun ds => W.pure (d :: ds) := fun X G => by
  refine (pa_cons (he X G) (hs X G) (hst _)).impW fun σ H Q fc ⟨z0, H0, z, ρ, E, h⟩ => ?_
  refine ⟨z0, H0, z, ρ, E, (f ρ).mono (fun d k v z1 H1 st1 fc1 r1 => ?_) h⟩
  refine ⟨z0, H0, z1, ρ, E.step st1, (fs ρ).mono (fun ds k2 vs z2 H2 st2 fc2 r2 => ?_) k⟩
  exact fun _ => k2 (v :: vs) z2 H2 (st1.trans st2) fc2 (.cons (r1.step st2) r2)
/-- what *x gives -/
def D.items : D → W (List D)
  | .tup xs => W.pure xs
  | .lst xs => W.pure xs
  | _ => W.fail
theorem RB.items {K : PySem.W.Frag} {mg : Str → Option Value} {z : Z} {H : Hp} {v : V} {d : D} {Q : List D → Prop} (ok : ZOk K z H) (r : RB K mg z H v d) (h : d.items.run Q) :
    ∃ a vs ds, v = .ref a ∧ (SqT K H a vs ∨ SqL K H a vs) ∧ RpL K mg z vs ds ∧ Q ds := by
  cases d with
  | tup ds =>
    obtain ⟨a, vs, e, q, r⟩ := r.tup ok
    exact ⟨a, vs, ds, e, .inl (.of q), r, h⟩
  | lst ds =>
    obtain ⟨a, vs, e, q, r⟩ := r.lst ok
    exact ⟨a, vs, ds, e, .inr (.of q), r, h⟩
  | _ => exact (show False from h).elim
theorem av_star {p : Pos} (he : EvB M S e f) (hs : EvAV M S es fs) (hst : ∀ env, starEach (.Starred e p :: es) env = (true, eval e env) :: starEach es env := by intro _; kernel_rfl) :
    EvAV M S (.Starred e p :: es) fun ρ => (f ρ).bind fun d => d.items.bind fun xs => (fs ρ).bind fun ds => W.pure (xs ++ ds) := fun X G => by
  refine (StX.pa_star (he X G) (hs X G) (hst _)).impW fun σ H Q fc ⟨z0, H0, z, ρ, E, h⟩ => ?_
  refine ⟨z0, H0, z, ρ, E, (f ρ).mono (fun d k v z1 H1 st1 fc1 r1 => ?_) h⟩
  obtain ⟨a, vs, ds, e, q, r, k⟩ := r1.items st1.ok k
  refine ⟨a, vs, e, q, z0, H0, z1, ρ, E.step st1, (fs ρ).mono (fun ds2 k2 ws z2 H2 st2 fc2 r2 => ?_) k⟩
  exact fun _ => k2 (vs ++ ws) z2 H2 (st1.trans st2) fc2 ((r.le st2.le).append r2)

/-! ### displays -/
theorem kV_new {K : PySem.W.Frag} {mg : Str → Option Value} {z z' : Z} {H H' : Hp} {Q : VK} {d : D} {p : Addr} {o : HO} (k : kV K mg z H Q d) (st : Step K z H z' H') (fc : Fct K (upd H' p o)) (hp : H' p = none) (r : Rp K mg (z'.put p o) (.ref p) d) : Q (.ref p) (upd H' p o) :=
  k (.ref p) (z'.put p o) (upd H' p o) (st.trans (Step.put st.ok hp)) fc r
theorem v_tup {x1 : Nat} (hs : EvAV M S es fs) : EvV M S (.Tuple es x1 pos) fun ρ => (fs ρ).bind fun ds => (W.need (ds.length ≤ sizeLine)).bind fun _ => W.pure (.tup ds) := fun X G => by
  refine (pe_tup (hs X G)).impW fun σ H Q fc ⟨z0, H0, z, ρ, E, h⟩ => ?_
  refine ⟨z0, H0, z, ρ, E, (fs ρ).mono (fun ds k vs z1 H1 st1 fc1 r1 => ?_) h⟩
  obtain ⟨hz, k⟩ := k
  exact ⟨by rw [r1.length]; exact hz, fun p hp fc2 => kV_new k st1 fc2 hp (.tup Z.put_at (r1.le (Z.le_put (st1.ok.free hp))))⟩
theorem f_lst (hs : EvAV M S es fs) : EvF M S (.List es pos) fun ρ => (fs ρ).bind fun ds => (W.need (ds.length ≤ sizeLine)).bind fun _ => W.pure (.lst ds) := fun X G => by
  refine (pe_lst (hs X G)).impW fun σ H Q fc ⟨z0, H0, z, ρ, E, h⟩ => ?_
  refine ⟨z0, H0, z, ρ, E, (fs ρ).mono (fun ds k vs z1 H1 st1 fc1 r1 => ?_) h⟩
  obtain ⟨hz, k⟩ := k
  refine ⟨by rw [r1.length]; exact hz, fun p hp fc2 => ?_⟩
  have hn : H p = none := by
    cases q : H p with
    | none => rfl
    | some o =>
      by_cases hb : z.β p
      · exact absurd (st1.le.β p hb) (st1.ok.nβ hp)
      · rw [st1.keep p o hb q] at hp; cases hp
  exact k p _ z1 _ (st1.trans (Step.fresh st1.ok hp)) fc2 hn (st1.ok.free hp) (st1.ok.nβ hp) upd_same (.lst r1)
end
end PW

set_option Elab.async false
set_option linter.all false
set_option maxRecDepth 100000
set_option maxHeartbeats 1000000
namespace PW
open PySem PySem.Spec PyProof.Rows L2

theorem kV.step {K : PySem.W.Frag} {mg : Str → Option Value} {z z2 : Z} {H H2 : Hp} {Q : VK} {d : D} (st : Step K z H z2 H2) (k : kV K mg z H Q d) : kV K mg z2 H2 Q d := fun v z' H' s2 => k v z' H' (st.trans s2)
theorem kV.now {K : PySem.W.Frag} {mg : Str → Option Value} {z : Z} {H : Hp} {Q : VK} {d : D} {v : V} (k : kV K mg z H Q d) (ok : ZOk K z H) (fc : Fct K H) (r : Rp K mg z v d) : Q v H := k v z H (Step.refl ok) fc r

/-! ### operators by values -/
def OpV (X : Cx) (r : R2) (w : D → D → W D) : Prop := ∀ {z : Z} {H : Hp} {x y : V} {d e : D} {Q : VK}, Fct X.K H → ZOk X.K z H → RB X.K X.mg z H x d → RB X.K X.mg z H y e → (w d e).run (kV X.K X.mg z H Q) → r x y H (fun v H' => Fct X.K H' → Q v H')
def OpE (M : Mo) (S : Fix) (fn : Value → Value → Sem Value) (w : D → D → W D) : Prop := ∀ X, Good M S X → ∃ r, OpR X fn r ∧ OpV X r w
theorem opR_fct {X : Cx} {fn : Value → Value → Sem Value} {r : R2} (h : OpR X fn r) : OpR X fn (fun x y H Q => r x y H (fun v H' => Fct X.K H' → Q v H')) := fun pins s σ H x y v u Q I rx ry q =>
  thn (h pins s σ H x y v u _ I rx ry q) fun _ _ ⟨v, H', I', r, q⟩ => ⟨v, H', I', r, q (fct_of I')⟩
def D.tr : D → W Bool
  | .bl b => W.pure b
  | _ => W.fail
theorem tr_run {d : D} {Q : Bool → Prop} (h : d.tr.run Q) : ∃ b, d = .bl b ∧ Q b := by
  cases d with
  | bl b => exact ⟨b, rfl, h⟩
  | _ => exact (show False from h).elim
section
variable {M : Mo} {S : Fix} {e a b c : Expr} {es : List Expr} {f g h : Env → W D} {pos : Pos} {w w' : D → D → W D}
theorem bin_t {X : Cx} {r : R2} (hv : OpV X r w) {σ : Sg} {H : Hp} {Q : VK} (hh : ∃ z0 H0 z ρ, EnvR S.mt X.K X.mg z0 H0 z H σ ρ ∧ ((f ρ).bind fun d => (g ρ).bind fun e => w d e).run (kV X.K X.mg z H Q)) :
    tOp r (tBr X.K X.mg S.mt f) (tBr X.K X.mg S.mt g) σ H (fun v H' => Fct X.K H' → Q v H') := by
  obtain ⟨z0, H0, z, ρ, E, h⟩ := hh
  refine ⟨z0, H0, z, ρ, E, (f ρ).mono (fun d k x z1 H1 st1 fc1 r1 => ?_) h⟩
  refine ⟨z0, H0, z1, ρ, E.step st1, (g ρ).mono (fun e k2 y z2 H2 st2 fc2 r2 => ?_) k⟩
  exact hv fc2 st2.ok (r1.step st2) r2 ((w d e).mono (fun d k => k.step (st1.trans st2)) k2)
theorem v_bin {op : Operator} (ho : OpE M S (binaryOp op) w) (ha : EvB M S a f) (hb : EvB M S b g) : EvV M S (.BinOp a op b pos) fun ρ => (f ρ).bind fun d => (g ρ).bind fun e => w d e := fun X G => by
  obtain ⟨r, ho, hv⟩ := ho X G
  exact (pe_op ho (ha X G) (hb X G)).impW fun σ H Q fc h => bin_t hv h
theorem v_cmp {op : CmpOp} (ho : OpE M S (compareOp op) w) (ha : EvB M S a f) (hb : EvB M S b g) (hm : behindInMarks op b = false := by kernel_rfl) : EvV M S (.Compare a [op] [b] pos) fun ρ => (f ρ).bind fun d => (g ρ).bind fun e => w d e := fun X G => by
  obtain ⟨r, ho, hv⟩ := ho X G
  exact (pe_cmpR ho (ha X G) (hb X G) hm).impW fun σ H Q fc h => bin_t hv h
theorem t_cmp {op : CmpOp} (ho : OpE M S (compareOp op) w) (ha : EvB M S a f) (hb : EvB M S b g) (hm : behindInMarks op b = false := by kernel_rfl) : EvT M S (.Compare a [op] [b] pos) fun ρ => (f ρ).bind fun d => (g ρ).bind fun e => (w d e).bind D.tr := fun X G => by
  obtain ⟨r, ho, hv⟩ := ho X G
  refine (pt_cmpR (opR_fct ho) (ha X G) (hb X G) hm).impW fun σ H Q fc hh => ?_
  obtain ⟨z0, H0, z, ρ, E, h⟩ := hh
  refine ⟨z0, H0, z, ρ, E, (f ρ).mono (fun d k x z1 H1 st1 fc1 r1 => ?_) h⟩
  refine ⟨z0, H0, z1, ρ, E.step st1, (g ρ).mono (fun e k2 y z2 H2 st2 fc2 r2 => ?_) k⟩
  have q := hv (Q := fun v H' => ∃ k, v = .bl k ∧ (Fct X.K H' → Q k H')) fc2 st2.ok (r1.step st2) r2 ((w d e).mono (fun d k v z' H' st fc r => by
    obtain ⟨b, rfl, k⟩ := tr_run k
    cases r
    exact ⟨b, rfl, fun fc => k z' H' ((st1.trans st2).trans st) fc⟩) k2)
  exact q
/-- a op b op' c, by values of bool -/
theorem v_chain {op op' : CmpOp} (ho : OpE M S (compareOp op) w) (ho' : OpE M S (compareOp op') w') (ha : EvB M S a f) (hb : EvB M S b g) (hc : EvB M S c h) (hm : lastMarks [op, op'] [b, c] = false := by kernel_rfl) :
    EvV M S (.Compare a [op, op'] [b, c] pos) fun ρ => (f ρ).bind fun d => (g ρ).bind fun e => (w d e).bind fun k => k.tr.bind fun k => if k = true then (h ρ).bind fun e' => w' e e' else W.pure (.bl false) := fun X G => by
  obtain ⟨r, ho, hv⟩ := ho X G
  obtain ⟨r', ho', hv'⟩ := ho' X G
  refine (pe_chain (opR_fct ho) (opR_fct ho') (ha X G) (hb X G) (hc X G) hm).impW fun σ H Q fc hh => ?_
  obtain ⟨z0, H0, z, ρ, E, hr⟩ := hh
  refine ⟨z0, H0, z, ρ, E, (f ρ).mono (fun d k x z1 H1 st1 fc1 r1 => ?_) hr⟩
  refine ⟨z0, H0, z1, ρ, E.step st1, (g ρ).mono (fun e k2 y z2 H2 st2 fc2 r2 => ?_) k⟩
  refine hv (Q := fun v H' => ∃ k, v = .bl k ∧ _) fc2 st2.ok (r1.step st2) r2 ((w d e).mono (fun d k v z3 H3 st3 fc3 r => ?_) k2)
  obtain ⟨b, rfl, k⟩ := tr_run k
  cases r
  refine ⟨b, rfl, ?_⟩
  have st13 := (st1.trans st2).trans st3
  cases b with
  | false =>
    rw [if_neg Bool.false_ne_true]
    exact fun fc => k (.bl false) z3 H3 st13 fc (.bl false)
  | true =>
    rw [if_pos rfl]
    refine ⟨z0, H0, z3, ρ, E.step st13, (h ρ).mono (fun e' k3 x3 z4 H4 st4 fc4 r4 => ?_) k⟩
    exact hv' (Q := fun v H' => Fct X.K H' → Q v H') fc4 st4.ok ((r2.step st3).step st4) r4 ((w' e e').mono (fun d k v z' H' st fc r _ => k v z' H' ((st13.trans st4).trans st) fc r) k3)

/-! ### tests -/
/-- what a value is as a test -/
def D.truth : D → W Bool
  | .bl b => W.pure b
  | .non => W.pure false
  | .int i => W.pure (i != 0)
  | .lst xs => W.pure (!xs.isEmpty)
  | .tup xs => W.pure (!xs.isEmpty)
  | _ => W.fail
theorem RpL.isEmpty {K : PySem.W.Frag} {mg : Str → Option Value} {z : Z} : ∀ {v : List V} {d : List D}, RpL K mg z v d → v.isEmpty = d.isEmpty
  | _, _, .nil => rfl
  | _, _, .cons _ _ => rfl
theorem truth_run {K : PySem.W.Frag} {mg : Str → Option Value} {z : Z} {H : Hp} {x : V} {d : D} {Q : Bool → Prop} (ok : ZOk K z H) (r : RB K mg z H x d) (h : d.truth.run Q) : ∃ b, TruV K x H b ∧ Q b := by
  cases d with
  | bl b => rw [r.bl]; exact ⟨b, rfl, h⟩
  | non => rw [r.non]; exact ⟨false, rfl, h⟩
  | int i => rw [r.int]; exact ⟨_, rfl, h⟩
  | lst ds =>
    obtain ⟨a, vs, rfl, q, r⟩ := r.lst ok
    exact ⟨_, .inl ⟨vs, .of q, rfl⟩, by rw [r.isEmpty]; exact h⟩
  | tup ds =>
    obtain ⟨a, vs, rfl, q, r⟩ := r.tup ok
    exact ⟨_, .inr (.inl ⟨vs, .of q, rfl⟩), by rw [r.isEmpty]; exact h⟩
  | _ => exact (show False from h).elim
variable {p q : Env → W Bool}
theorem t_val (ha : EvB M S a f) (he : ∀ env whole, isTrue a env whole = (do let v ← whole; standAt a.pos; holding [v] (truthy v)) := by intro _ _; kernel_rfl) : EvT M S a fun ρ => (f ρ).bind D.truth := fun X G => by
  refine (pt_truth (ha X G) (he _)).impW fun σ H Q fc ⟨z0, H0, z, ρ, E, h⟩ => ⟨z0, H0, z, ρ, E, (f ρ).mono (fun d k x z1 H1 st1 fc1 r1 => ?_) h⟩
  obtain ⟨b, tv, k⟩ := truth_run st1.ok r1 k
  exact ⟨b, tv, fun _ => k z1 H1 st1 fc1⟩
theorem kT.step {K : PySem.W.Frag} {z z2 : Z} {H H2 : Hp} {Q : Bool → Hp → Prop} {b : Bool} (st : Step K z H z2 H2) (k : kT K z H Q b) : kT K z2 H2 Q b := fun z' H' s2 => k z' H' (st.trans s2)
theorem EvTW.t (h : EvTW M S a p) : EvT M S a p := fun X G => (h X G).pt
theorem t_not (ha : EvT M S a p) : EvT M S (.UnaryOp .Not a pos) fun ρ => (p ρ).bind fun b => W.pure !b := fun X G =>
  (pt_not (ha X G)).impW fun σ H Q fc ⟨z0, H0, z, ρ, E, h⟩ => ⟨z0, H0, z, ρ, E, (p ρ).mono (fun d k z1 H1 st1 fc1 _ => k z1 H1 st1 fc1) h⟩
theorem tw_and1 (ha : EvT M S a p) : EvTW M S (.BoolOp .And [a] pos) p := fun X G => pw_and1 (ha X G)
theorem tw_or1 (ha : EvT M S a p) : EvTW M S (.BoolOp .Or [a] pos) p := fun X G => pw_or1 (ha X G)
theorem tw_and {rest : List Expr} (ha : EvT M S a p) (hb : EvTW M S (.BoolOp .And (b :: rest) pos) q) : EvTW M S (.BoolOp .And (a :: b :: rest) pos) fun ρ => (p ρ).bind fun k => if k = true then q ρ else W.pure false := fun X G => by
  refine PWi (pw_and (ha X G) (hb X G)) fun σ H Q fc ⟨z0, H0, z, ρ, E, h⟩ => ⟨z0, H0, z, ρ, E, (p ρ).mono (fun d k z1 H1 st1 fc1 => ?_) h⟩
  cases d with
  | false =>
    rw [if_neg Bool.false_ne_true]
    exact fun _ => k z1 H1 st1 fc1
  | true =>
    rw [if_pos rfl]
    exact ⟨z0, H0, z1, ρ, E.step st1, (q ρ).mono (fun d k z2 H2 st2 fc2 _ => k z2 H2 (st1.trans st2) fc2) k⟩
theorem tw_or {rest : List Expr} (ha : EvT M S a p) (hb : EvTW M S (.BoolOp .Or (b :: rest) pos) q) : EvTW M S (.BoolOp .Or (a :: b :: rest) pos) fun ρ => (p ρ).bind fun k => if k = true then W.pure true else q ρ := fun X G => by
  refine PWi (pw_or (ha X G) (hb X G)) fun σ H Q fc ⟨z0, H0, z, ρ, E, h⟩ => ⟨z0, H0, z, ρ, E, (p ρ).mono (fun d k z1 H1 st1 fc1 => ?_) h⟩
  cases d with
  | true =>
    rw [if_pos rfl]
    exact fun _ => k z1 H1 st1 fc1
  | false =>
    rw [if_neg Bool.false_ne_true]
    exact ⟨z0, H0, z1, ρ, E.step st1, (q ρ).mono (fun d k z2 H2 st2 fc2 _ => k z2 H2 (st1.trans st2) fc2) k⟩
theorem t_never : EvT M S a fun _ => W.fail := fun X G => ⟨fun _ _ _ _ _ _ ⟨_, _, _, _, _, h⟩ => (show False from h).elim⟩
theorem tw_never : EvTW M S a fun _ => W.fail := fun X G => ⟨fun _ _ _ _ _ _ _ ⟨_, _, _, _, _, h⟩ => (show False from h).elim⟩

/-! ### not, and, or, if as values -/
theorem v_not (ha : EvB M S a f) : EvV M S (.UnaryOp .Not a pos) fun ρ => (f ρ).bind fun d => d.truth.bind fun b => W.pure (.bl !b) := fun X G => by
  refine (pe_notT (ha X G)).impW fun σ H Q fc ⟨z0, H0, z, ρ, E, h⟩ => ⟨z0, H0, z, ρ, E, (f ρ).mono (fun d k x z1 H1 st1 fc1 r1 => ?_) h⟩
  obtain ⟨b, tv, k⟩ := truth_run st1.ok r1 k
  exact ⟨b, tv, fun _ => k (.bl !b) z1 H1 st1 fc1 (.bl _)⟩
theorem v_one {op : BoolOp} (ha : EvV M S a f) : EvV M S (.BoolOp op [a] pos) f := fun X G => pe_one (ha X G)
theorem v_and {rest : List Expr} (ha : EvV M S a f) (hb : EvV M S (.BoolOp .And (b :: rest) pos) g) : EvV M S (.BoolOp .And (a :: b :: rest) pos) fun ρ => (f ρ).bind fun d => d.tr.bind fun k => if k = true then g ρ else W.pure (.bl false) := fun X G => by
  refine (pe_and (ha X G) (hb X G)).impW fun σ H Q fc ⟨z0, H0, z, ρ, E, h⟩ => ⟨z0, H0, z, ρ, E, (f ρ).mono (fun d k x z1 H1 st1 fc1 r1 => ?_) h⟩
  obtain ⟨b, rfl, k⟩ := tr_run k
  cases r1
  refine ⟨b, rfl, ?_⟩
  cases b with
  | false =>
    rw [if_neg Bool.false_ne_true]
    exact fun _ => k (.bl false) z1 H1 st1 fc1 (.bl _)
  | true =>
    rw [if_pos rfl]
    exact ⟨z0, H0, z1, ρ, E.step st1, (g ρ).mono (fun d k v z2 H2 st2 fc2 r2 _ => k v z2 H2 (st1.trans st2) fc2 r2) k⟩
theorem v_or {rest : List Expr} (ha : EvV M S a f) (hb : EvV M S (.BoolOp .Or (b :: rest) pos) g) : EvV M S (.BoolOp .Or (a :: b :: rest) pos) fun ρ => (f ρ).bind fun d => d.tr.bind fun k => if k = true then W.pure (.bl true) else g ρ := fun X G => by
  refine (pe_or (ha X G) (hb X G)).impW fun σ H Q fc ⟨z0, H0, z, ρ, E, h⟩ => ⟨z0, H0, z, ρ, E, (f ρ).mono (fun d k x z1 H1 st1 fc1 r1 => ?_) h⟩
  obtain ⟨b, rfl, k⟩ := tr_run k
  cases r1
  refine ⟨b, rfl, ?_⟩
  cases b with
  | true =>
    rw [if_pos rfl]
    exact fun _ => k (.bl true) z1 H1 st1 fc1 (.bl _)
  | false =>
    rw [if_neg Bool.false_ne_true]
    exact ⟨z0, H0, z1, ρ, E.step st1, (g ρ).mono (fun d k v z2 H2 st2 fc2 r2 _ => k v z2 H2 (st1.trans st2) fc2 r2) k⟩
theorem v_if (hc : EvT M S c p) (ha : EvV M S a f) (hb : EvV M S b g) : EvV M S (.IfExp c a b pos) fun ρ => (p ρ).bind fun k => if k = true then f ρ else g ρ := fun X G => by
  refine (pe_ifExp (hc X G) (ha X G) (hb X G)).impW fun σ H Q fc ⟨z0, H0, z, ρ, E, h⟩ => ⟨z0, H0, z, ρ, E, (p ρ).mono (fun d k z1 H1 st1 fc1 => ?_) h⟩
  cases d with
  | true =>
    rw [if_pos rfl]
    exact ⟨z0, H0, z1, ρ, E.step st1, (f ρ).mono (fun d k v z2 H2 st2 fc2 r2 _ => k v z2 H2 (st1.trans st2) fc2 r2) k⟩
  | false =>
    rw [if_neg Bool.false_ne_true]
    exact ⟨z0, H0, z1, ρ, E.step st1, (g ρ).mono (fun d k v z2 H2 st2 fc2 r2 _ => k v z2 H2 (st1.trans st2) fc2 r2) k⟩
end

/-! ### arithmetic -/
def D.add : D → D → W D
  | .int i, .int j => W.pure (.int (i + j))
  | .lst xs, .lst ys => (W.need (xs.length + ys.length ≤ sizeLine)).bind fun _ => W.pure (.lst (xs ++ ys))
  | .tup xs, .tup ys => (W.need (xs.length + ys.length ≤ sizeLine)).bind fun _ => W.pure (.tup (xs ++ ys))
  | .str x, .str y => (W.need (x.length + y.length ≤ sizeLine)).bind fun _ => W.pure (.str (x ++ y))
  | _, _ => W.fail
def D.sub : D → D → W D
  | .int i, .int j => W.pure (.int (i - j))
  | _, _ => W.fail
def D.mul : D → D → W D
  | .int i, .int j => (W.need (CMul i j)).bind fun _ => W.pure (.int (i * j))
  | .lst xs, .int k => (W.need (-(2 ^ 63) ≤ k ∧ k < 2 ^ 63 ∧ xs.length * k.toNat ≤ sizeLine)).bind fun _ => W.pure (.lst (List.replicate k.toNat xs).flatten)
  | _, _ => W.fail
def D.fdiv : D → D → W D
  | .int i, .int j => (W.need (CDiv i j)).bind fun _ => W.pure (.int (i / j))
  | _, _ => W.fail
def D.mod : D → D → W D
  | .int i, .int j => (W.need (0 < j)).bind fun _ => W.pure (.int (i % j))
  | _, _ => W.fail
section
variable {M : Mo} {S : Fix}
theorem o_add : OpE M S (binaryOp .Add) D.add := fun X G => by
  refine ⟨_, (op_add.or op_cat).or (op_catA.or op_add_str), fun {z H x y d e Q} fc ok rx ry h => ?_⟩
  cases d <;> cases e <;> first
    | exact (show False from h).elim
    | skip
  · rw [rx.int, ry.int]
    exact .inl (.inl ⟨_, _, rfl, rfl, fun _ => h.now ok fc (.int _)⟩)
  · rw [rx.str, ry.str]
    exact .inr (.inr ⟨_, _, rfl, rfl, h.1, fun _ => h.2.now ok fc (.str _)⟩)
  · obtain ⟨a, vs, rfl, qa, ra⟩ := rx.tup ok
    obtain ⟨b, us, rfl, qb, rb⟩ := ry.tup ok
    obtain ⟨hz, h⟩ := h
    refine .inr (.inl ⟨a, b, vs, us, rfl, rfl, .of qa, .of qb, by rw [ra.length, rb.length]; exact hz, fun e _ => ?_, fun _ e _ => ?_, fun _ _ p hp fc2 => kV_new h (Step.refl ok) fc2 hp (.tup Z.put_at ((ra.append rb).le (Z.le_put (ok.free hp))))⟩)
    · subst e
      cases ra
      rcases ry with ry | ⟨_, _, _, _, _, c⟩
      · exact h.now ok fc ry
      · cases c
    · subst e
      cases rb
      rw [List.append_nil] at h
      rcases rx with ry | ⟨_, _, _, _, _, c⟩
      · exact h.now ok fc ry
      · cases c
  · obtain ⟨a, vs, rfl, qa, ra⟩ := rx.lst ok
    obtain ⟨b, us, rfl, qb, rb⟩ := ry.lst ok
    obtain ⟨hz, h⟩ := h
    exact .inl (.inr ⟨a, b, vs, us, rfl, rfl, qa, qb, by rw [ra.length, rb.length]; exact hz, fun p hp fc2 => kV_new h (Step.refl ok) fc2 hp (.lst Z.put_at ((ra.append rb).le (Z.le_put (ok.free hp))))⟩)
theorem o_sub : OpE M S (binaryOp .Sub) D.sub := fun X G => by
  refine ⟨_, op_sub, fun {z H x y d e Q} fc ok rx ry h => ?_⟩
  cases d <;> cases e <;> first
    | exact (show False from h).elim
    | skip
  rw [rx.int, ry.int]
  exact ⟨_, _, rfl, rfl, fun _ => h.now ok fc (.int _)⟩
theorem RpL.rep {K : PySem.W.Frag} {mg : Str → Option Value} {z : Z} {v : List V} {d : List D} (r : RpL K mg z v d) : ∀ n : Nat, RpL K mg z (List.replicate n v).flatten (List.replicate n d).flatten
  | 0 => .nil
  | n + 1 => by rw [List.replicate_succ, List.replicate_succ, List.flatten_cons, List.flatten_cons]; exact r.append (RpL.rep r n)
theorem o_mul : OpE M S (binaryOp .Mult) D.mul := fun X G => by
  refine ⟨_, op_mul.or op_rep, fun {z H x y d e Q} fc ok rx ry h => ?_⟩
  cases d <;> cases e <;> first
    | exact (show False from h).elim
    | skip
  · rw [rx.int, ry.int]
    exact .inl ⟨_, _, rfl, rfl, h.1, fun _ => h.2.now ok fc (.int _)⟩
  · obtain ⟨a, vs, rfl, qa, ra⟩ := rx.lst ok
    rw [ry.int]
    obtain ⟨⟨h1, h2, h3⟩, h⟩ := h
    exact .inr ⟨a, _, vs, rfl, rfl, qa, h1, h2, by rw [ra.length]; exact h3, fun p hp fc2 => kV_new h (Step.refl ok) fc2 hp (.lst Z.put_at ((ra.rep _).le (Z.le_put (ok.free hp))))⟩
theorem o_fdiv : OpE M S (binaryOp .FloorDiv) D.fdiv := fun X G => by
  refine ⟨_, op_fdiv, fun {z H x y d e Q} fc ok rx ry h => ?_⟩
  cases d <;> cases e <;> first
    | exact (show False from h).elim
    | skip
  rw [rx.int, ry.int]
  exact ⟨_, _, rfl, rfl, h.1, fun _ => h.2.now ok fc (.int _)⟩
theorem o_mod : OpE M S (binaryOp .Mod) D.mod := fun X G => by
  refine ⟨_, op_mod, fun {z H x y d e Q} fc ok rx ry h => ?_⟩
  cases d <;> cases e <;> first
    | exact (show False from h).elim
    | skip
  rw [rx.int, ry.int]
  exact ⟨_, _, rfl, rfl, h.1, fun _ => h.2.now ok fc (.int _)⟩

/-! ### comparisons -/
mutual
/-- data that the library's == speaks of -/
def D.py : D → Option PyData
  | .non => some .none
  | .bl b => some (.bool b)
  | .int i => some (.int i)
  | .str x => some (.str x)
  | .tup xs => (pyL xs).map .tuple
  | .lst xs => (pyL xs).map .list
  | .ty _ | .dK _ | .dT _ | .rng _ _ | .fn _ | .bag | .scr => none
def pyL : List D → Option (List PyData)
  | [] => some []
  | x :: xs => match x.py, pyL xs with
    | some p, some ps => some (p :: ps)
    | _, _ => none
end
mutual
theorem Rp.dp {K : PySem.W.Frag} {mg : Str → Option Value} {z : Z} {H : Hp} (s : Same z.f H) : ∀ (d : D) {v : V} {p : PyData}, Rp K mg z v d → d.py = some p → Dp K H v p
  | .non, _, _, r, e => by cases r; cases e; exact .non
  | .bl b, _, _, r, e => by cases r; cases e; exact .bl b
  | .int b, _, _, r, e => by cases r; cases e; exact .int b
  | .str b, _, _, r, e => by cases r; cases e; exact .str b
  | .tup xs, _, p, r, e => by
    cases r with
    | tup h r =>
      have e : (pyL xs).map .tuple = some p := e
      cases q : pyL xs with
      | none => rw [q] at e; cases e
      | some ps => rw [q] at e; cases e; exact .tup (.of (s _ _ h)) (RpL.dp s xs r q)
  | .lst xs, _, p, r, e => by
    cases r with
    | lst h r =>
      have e : (pyL xs).map .list = some p := e
      cases q : pyL xs with
      | none => rw [q] at e; cases e
      | some ps => rw [q] at e; cases e; exact .lst (.of (s _ _ h)) (RpL.dp s xs r q)
  | .ty _, _, _, _, e => by cases e
  | .dK _, _, _, _, e => by cases e
  | .dT _, _, _, _, e => by cases e
  | .rng _ _, _, _, _, e => by cases e
  | .fn _, _, _, _, e => by cases e
  | .bag, _, _, _, e => by cases e
  | .scr, _, _, _, e => by cases e
theorem RpL.dp {K : PySem.W.Frag} {mg : Str → Option Value} {z : Z} {H : Hp} (s : Same z.f H) : ∀ (d : List D) {v : List V} {p : List PyData}, RpL K mg z v d → pyL d = some p → DpAll K H v p
  | [], _, _, r, e => by cases r; cases e; exact .nil
  | x :: xs, _, p, r, e => by
    cases r with
    | cons r1 r2 =>
      have e : (match x.py, pyL xs with
        | some p, some ps => some (p :: ps)
        | _, _ => none) = some p := e
      cases q : x.py with
      | none => rw [q] at e; cases e
      | some p1 =>
        cases q2 : pyL xs with
        | none => rw [q, q2] at e; cases e
        | some ps => rw [q, q2] at e; cases e; exact .cons (Rp.dp s x r1 q) (RpL.dp s xs r2 q2)
end
theorem RB.dp {K : PySem.W.Frag} {mg : Str → Option Value} {z : Z} {H : Hp} {v : V} {d : D} {p : PyData} (ok : ZOk K z H) (r : RB K mg z H v d) (e : d.py = some p) : Dp K H v p := by
  rcases r with r | ⟨a, o, rfl, b, q, c⟩
  · exact r.dp ok.sub d e
  · cases c with
    | @lst vs ds r =>
      have e : (pyL ds).map .list = some p := e
      cases q2 : pyL ds with
      | none => rw [q2] at e; cases e
      | some ps => rw [q2] at e; cases e; exact .lst (.of q) (RpL.dp ok.sub ds r q2)
    | dK _ => cases e
    | dT _ => cases e
def D.py? (d : D) : W PyData := match d.py with
  | some p => (W.need (SeqAt.shaped p = true)).bind fun _ => W.pure p
  | none => W.fail
theorem py_run {d : D} {Q : PyData → Prop} (h : d.py?.run Q) : ∃ p, d.py = some p ∧ SeqAt.shaped p = true ∧ Q p := by
  unfold D.py? at h
  cases q : d.py with
  | none => rw [q] at h; exact (show False from h).elim
  | some p => rw [q] at h; exact ⟨p, rfl, h.1, h.2⟩
def D.eq (d e : D) : W D := d.py?.bind fun p => e.py?.bind fun q => W.pure (.bl (PyData.eqv p q))
def D.ne (d e : D) : W D := d.py?.bind fun p => e.py?.bind fun q => W.pure (.bl (!PyData.eqv p q))
theorem o_eq : OpE M S (compareOp .Eq) D.eq := fun X G => by
  refine ⟨_, op_eqD (by have := G.room.un; omega), fun {z H x y d e Q} fc ok rx ry h => ?_⟩
  obtain ⟨p, e1, s1, h⟩ := py_run h
  obtain ⟨q, e2, s2, h⟩ := py_run h
  exact ⟨p, q, rx.dp ok e1, ry.dp ok e2, s1, s2, fun _ => h.now ok fc (.bl _)⟩
theorem o_ne : OpE M S (compareOp .NotEq) D.ne := fun X G => by
  refine ⟨_, op_neD (by have := G.room.un; omega), fun {z H x y d e Q} fc ok rx ry h => ?_⟩
  obtain ⟨p, e1, s1, h⟩ := py_run h
  obtain ⟨q, e2, s2, h⟩ := py_run h
  exact ⟨p, q, rx.dp ok e1, ry.dp ok e2, s1, s2, fun _ => h.now ok fc (.bl _)⟩
def D.lt : D → D → W D
  | .int i, .int j => W.pure (.bl (decide (i < j)))
  | _, _ => W.fail
def D.le : D → D → W D
  | .int i, .int j => W.pure (.bl (decide (i ≤ j)))
  | _, _ => W.fail
def D.gt : D → D → W D
  | .int i, .int j => W.pure (.bl (decide (j < i)))
  | _, _ => W.fail
def D.ge : D → D → W D
  | .int i, .int j => W.pure (.bl (decide (j ≤ i)))
  | _, _ => W.fail
theorem o_lt : OpE M S (compareOp .Lt) D.lt := fun X G => by
  refine ⟨_, op_lt, fun {z H x y d e Q} fc ok rx ry h => ?_⟩
  cases d <;> cases e <;> first
    | exact (show False from h).elim
    | skip
  rw [rx.int, ry.int]
  exact ⟨_, _, rfl, rfl, fun _ => h.now ok fc (.bl _)⟩
theorem o_le : OpE M S (compareOp .LtE) D.le := fun X G => by
  refine ⟨_, op_le, fun {z H x y d e Q} fc ok rx ry h => ?_⟩
  cases d <;> cases e <;> first
    | exact (show False from h).elim
    | skip
  rw [rx.int, ry.int]
  exact ⟨_, _, rfl, rfl, fun _ => h.now ok fc (.bl _)⟩
theorem o_gt : OpE M S (compareOp .Gt) D.gt := fun X G => by
  refine ⟨_, op_gt, fun {z H x y d e Q} fc ok rx ry h => ?_⟩
  cases d <;> cases e <;> first
    | exact (show False from h).elim
    | skip
  rw [rx.int, ry.int]
  exact ⟨_, _, rfl, rfl, fun _ => h.now ok fc (.bl _)⟩
theorem o_ge : OpE M S (compareOp .GtE) D.ge := fun X G => by
  refine ⟨_, op_ge, fun {z H x y d e Q} fc ok rx ry h => ?_⟩
  cases d <;> cases e <;> first
    | exact (show False from h).elim
    | skip
  rw [rx.int, ry.int]
  exact ⟨_, _, rfl, rfl, fun _ => h.now ok fc (.bl _)⟩
def D.isNon : D → Bool
  | .non => true
  | _ => false
theorem isNon_eq {K : PySem.W.Frag} {mg : Str → Option Value} {z : Z} {H : Hp} {v : V} {d : D} (r : RB K mg z H v d) : decide (v = .non) = d.isNon := by
  rcases r with r | ⟨a, o, rfl, b, q, c⟩
  · cases r <;> rfl
  · cases c <;> rfl
def D.is : D → D → W D
  | d, .non => W.pure (.bl d.isNon)
  | .bl a, .bl b => W.pure (.bl (decide (a = b)))
  | _, _ => W.fail
def D.isnot : D → D → W D
  | d, .non => W.pure (.bl !d.isNon)
  | .bl a, .bl b => W.pure (.bl (!decide (a = b)))
  | _, _ => W.fail
theorem o_is : OpE M S (compareOp .Is) D.is := fun X G => by
  refine ⟨_, op_isN.or op_is_bl, fun {z H x y d e Q} fc ok rx ry h => ?_⟩
  cases e with
  | non =>
    have h : kV X.K X.mg z H Q (.bl d.isNon) := by cases d <;> exact h
    exact .inl ⟨ry.non, fun _ => by rw [isNon_eq rx]; exact h.now ok fc (.bl _)⟩
  | bl b =>
    cases d with
    | bl a => rw [rx.bl, ry.bl]; exact .inr ⟨_, _, rfl, rfl, fun _ => h.now ok fc (.bl _)⟩
    | _ => exact (show False from h).elim
  | _ => cases d <;> exact (show False from h).elim
theorem o_isnot : OpE M S (compareOp .IsNot) D.isnot := fun X G => by
  refine ⟨_, op_notN.or op_isnot_bl, fun {z H x y d e Q} fc ok rx ry h => ?_⟩
  cases e with
  | non =>
    have h : kV X.K X.mg z H Q (.bl !d.isNon) := by cases d <;> exact h
    exact .inl ⟨ry.non, fun _ => by rw [isNon_eq rx]; exact h.now ok fc (.bl _)⟩
  | bl b =>
    cases d with
    | bl a => rw [rx.bl, ry.bl]; exact .inr ⟨_, _, rfl, rfl, fun _ => h.now ok fc (.bl _)⟩
    | _ => exact (show False from h).elim
  | _ => cases d <;> exact (show False from h).elim
end
end PW

set_option Elab.async false
set_option linter.all false
set_option maxRecDepth 100000
set_option maxHeartbeats 1000000
/-! enumerate over a tuple -/
namespace PW
open PySem PySem.Spec PyProof.Rows L2
open AutoSeq1 (wpAny_loadPart')
theorem meets_enumerate_newT (l : Addr) (items : Array Value) :
    Meets (Builtin.«enumerate.__new__» ⟨[.type "enumerate", .ref l], []⟩) (fun _ R s => s.heap.IsTuple l items ∧
      R (.ok (.ret (.ref (s.heap.push { cls := .type "tuple_iterator", data := .fields #[.ref l, .int 0 0] }).objs.size)))
        { s with heap := (s.heap.push { cls := .type "tuple_iterator", data := .fields #[.ref l, .int 0 0] }).push { cls := .type "enumerate", data := .fields #[.none, .bool false, .ref s.heap.objs.size, rawInt 0, .none, .none] } }) :=
  .of_wp fun prog w A R s h => by
    obtain ⟨hp, g, d, tk, os⟩ := s; obtain ⟨hL, h⟩ := h
    have hsub := sub_enumerate
    replace hL : Heap.IsTuple (Shared.heap ⟨hp, g, d, tk, os⟩) l items := hL
    obtain ⟨o, hl, hc, n, hd⟩ := id hL
    wp_walk using wpAny_loadPart' hl
    refine wpAny_stack_any fun st => wpAny_pure ?_
    split
    · rename_i c _ _ _ _ _
      cases (c == Value.type "enumerate")
      · wp_walk using wpAny_loadPart' hl, wpAny_pyIter_tuple hL
        exact ⟨_, rfl, h⟩
      · wp_walk using wpAny_loadPart' hl, wpAny_pyIter_tuple hL
        exact ⟨_, rfl, h⟩
    · wp_walk using wpAny_loadPart' hl, wpAny_pyIter_tuple hL
      exact ⟨_, rfl, h⟩
theorem call_enumerate_tuple {prog : Program} {w : World} {A : Around} {E : Value → Shared → Prop} {s : Shared} {l : Addr} {items : Array Value} {Q : Value → Shared → Prop} (hL : s.heap.IsTuple l items)
    (h : ∀ h', IsEnum h' (s.heap.objs.size + 1) s.heap.objs.size 0 .none → h'.IsTupleIter s.heap.objs.size l 0 → h'.objs.size = s.heap.objs.size + 2 →
      (∀ b o, s.heap.get? b = some o → h'.get? b = some o) → Q (.ref (s.heap.objs.size + 1)) { s with heap := h' }) :
    wpAny (model prog w) A (call (.type "enumerate") [.ref l]) Q E s := by
  refine callType_new F.called_enumerate (by decide) (F.typeCall_enumerate_1 _) (F.newCall_enumerate_1 _) (fun obj => F.args_object_init_2 obj _) F.entry_enumerate_new
    (meets_enumerate_newT l items) ⟨hL, ?_⟩
  have hz : (s.heap.push { cls := .type "tuple_iterator", data := .fields #[.ref l, .int 0 0] }).objs.size = s.heap.objs.size + 1 := Heap.size_push ..
  show _ ∧ _
  rw [hz]
  have he : IsEnum ((s.heap.push { cls := .type "tuple_iterator", data := .fields #[.ref l, .int 0 0] }).push
      { cls := .type "enumerate", data := .fields #[.none, .bool false, .ref s.heap.objs.size, rawInt 0, .none, .none] }) (s.heap.objs.size + 1) s.heap.objs.size 0 .none := by
    have := Heap.get?_push_size (s.heap.push { cls := .type "tuple_iterator", data := .fields #[.ref l, .int 0 0] })
      (o := { cls := .type "enumerate", data := .fields #[.none, .bool false, .ref s.heap.objs.size, rawInt 0, .none, .none] }) rfl
    rw [hz] at this; exact this
  exact ⟨⟨_, he, rfl⟩, h _ he ⟨_, Heap.get?_push_of_some _ (Heap.get?_push_size _ rfl), rfl, rfl⟩ (by rw [Heap.size_push, hz]) fun b o y => Heap.get?_push_of_some _ (Heap.get?_push_of_some _ y)⟩
def IteT (K : PySem.W.Frag) (a : Addr) : It :=
  ⟨fun i H => ∃ (xs : List V) (x : V), SqT K H a xs ∧ xs[i]? = some x, fun i H v H' => ∃ T x, v = .ref T ∧ H T = none ∧ H' = upd H T (.tup [.int (i : Nat), x]) ∧ ∀ xs, SqT K H a xs → xs[i]? = some x, fun i H => ∃ xs : List V, SqT K H a xs ∧ xs.length = i⟩
theorem turn_enumT {P : Program} {w : World} {K : PySem.W.Frag} {elts : List Expr} {kk : Nat} {tpos : Pos} (a e it : Addr) :
    Turn P w K (.Tuple elts kk tpos) (IteT K a) [e, it] e (fun i h => (∃ old, IsEnum h e it ((i : Nat) : Int) old) ∧ h.IsTupleIter it a i ∧ e ≠ it ∧ a ≠ it) where
  mem := by simp
  obj := fun i h st b hb => by
    obtain ⟨⟨old, he⟩, ⟨o, ho, hc, hd⟩, _⟩ := st
    have e' : b = e ∨ b = it := by simpa using hb
    rcases e' with z | z
    · rw [z]; exact ⟨_, he, fun v q => nomatch q⟩
    · rw [z]; exact ⟨o, ho, fun v q => by rw [hd] at q; cases q⟩
  keep := fun i h h' st k => let ⟨⟨old, he⟩, hi, hne⟩ := st; ⟨⟨old, k e (by simp) _ he⟩, hi.at fun o q => k it (by simp) o q, hne⟩
  item := by
    intro X hP hw hK hc i pins s σ H E I hf st hg
    subst hP hw hK
    obtain ⟨⟨old, he⟩, hit, hne, hna⟩ := st
    obtain ⟨xs, x, hq, hx⟩ := hg
    obtain ⟨its, rv, p, hz⟩ := I.tuple hq
    obtain ⟨u, hu, ru⟩ := rv.get hx
    have hel : e < s.heap.objs.size := Heap.lt_size he
    have hil : it < s.heap.objs.size := by obtain ⟨_, q, _⟩ := hit; exact Heap.lt_size q
    have hsz : i < its.toArray.size := by
      have := List.getElem?_eq_some_iff.mp hu
      simpa using this.1
    have D := Draws.tuple (prog := X.prog) (w := X.w) (A := X.A.in1) (by exact I.ok.hd hc) it a hna its.toArray
    have hea : e ∉ [it, a] := by
      intro m
      have e' : e = it ∨ e = a := by simpa using m
      rcases e' with z | z
      · exact hne z
      · subst z
        obtain ⟨o, ho, hc', _⟩ := p
        have q := ho.symm.trans he
        cases q
        exact absurd hc' (by intro q; injection q with q; exact absurd q (by decide))
    refine wpAny_pyNext_enum_itemD D he ⟨hit, p⟩ hsz hne hea fun u' h' tk hP ho hit' hT hsz' hk => ?_
    have eu : u' = u := by
      have h1 : its.toArray[i]? = some u' := hP
      have h2 : its.toArray[i]? = some u := by simpa using hu
      rw [h1] at h2
      exact Option.some.inj h2
    subst eu
    refine ⟨_, rfl, wpAny_letOwnedTupleGo_enum (s := { s with heap := h', toks := tk + 1 }) ho fun h'' he' sb => ?_⟩
    have hT2 : h''.get? s.heap.objs.size = some { cls := .type "tuple", data := .seq #[.int i tk, u'] } := (sb.2 _ (Nat.ne_of_gt hel)).trans hT
    have new : ObjOk X.prog X.w (upd H s.heap.objs.size (.tup [.int (i : Nat), x])) h'' s.heap.objs.size (.tup [.int (i : Nat), x]) :=
      ⟨by show 2 ≤ sizeLine; decide, [.int i tk, u'], .cons ⟨_, rfl⟩ (.cons ru .nil), ⟨_, hT2, rfl, _, rfl⟩⟩
    have I1 : Inv X pins σ (upd H s.heap.objs.size (.tup [.int (i : Nat), x])) { s with heap := h'', toks := tk + 1 } :=
      I.turnedNew (ch := [e, it]) (fun b ob hb q => (sb.2 b (fun z => hb (by simp [z]))).trans (hk b ob (fun z => hb (by simp [z])) (fun z => hb (by simp [z])) q)) hf (Nat.le_refl _) new
    refine ⟨.ref s.heap.objs.size, _, I1, rfl, ⟨_, x, rfl, I.hok.fresh (Nat.le_refl _), rfl, fun ys hy => by rw [I.tuple_inj hy hq]; exact hx⟩, ⟨⟨u', ?_⟩, hit'.1.at fun o q => (sb.2 it (Ne.symm hne)).trans q, hne, hna⟩, fun b hb => ?_⟩
    · have e1 : ((i + 1 : Nat) : Int) = (i : Int) + 1 := by omega
      rw [e1]; exact he'
    · have hb' : b < s.heap.objs.size := by
        have e' : b = e ∨ b = it := by simpa using hb
        rcases e' with z | z
        · rw [z]; exact hel
        · rw [z]; exact hil
      rw [upd_ne (Nat.ne_of_lt hb')]
      exact (hf b hb).1
  done := by
    intro X hP hw hK hc i pins s σ H E I hf st hg
    subst hP hw hK
    obtain ⟨⟨old, he⟩, hit, hne, hna⟩ := st
    obtain ⟨xs, hq, hx⟩ := hg
    obtain ⟨its, rv, p, hz⟩ := I.tuple hq
    obtain ⟨f0, f1, f2, f3, f4, f5⟩ := hf it (by simp)
    have hl := rv.length
    have D := Draws.tuple (prog := X.prog) (w := X.w) (A := X.A.in1) (by exact I.ok.hd hc) it a hna its.toArray
    have e1 : its.toArray.size = i := by rw [List.size_toArray]; omega
    exact wpAny_pyNext_enum_endD D he ⟨by rw [e1]; exact hit, p⟩ fun h' eb => ⟨rfl, I.turned (t' := s.toks) (fun b o hb q => eb b o hb q) f0 f1 f3 f4 f5⟩
  self := fun A i s Q E st h => let ⟨⟨_, he⟩, _⟩ := st; wpAny_pyIter_enum he h
theorem walk_enumT {K : PySem.W.Frag} {a : Addr} {xs : List V} : Walk (IteT K a) xs.length (fun H => SqT K H a xs) (YPair (fun i => some (.int (i : Nat))) (fun i => xs[i]?)) := by
  refine ⟨fun i _ hi q => ⟨xs, xs[i], q, by simp [hi]⟩, fun _ q => ⟨xs, q, rfl⟩, fun i H v H' _ q y => ?_⟩
  obtain ⟨T, x, h1, h2, h3, h4⟩ := y
  exact ⟨T, .int (i : Nat), x, h1, h2, h3, rfl, h4 xs q⟩
/-- enumerate of a list, of a tuple -/
def iEnumA (K : PySem.W.Frag) (ta : TA) : TI := fun σ H R => ta σ H fun vs H1 => ∃ a xs, vs = [.ref a] ∧ ((SqL K H1 a xs ∧ R (Ite K a) H1) ∨ (SqT K H1 a xs ∧ R (IteT K a) H1))
theorem pi_enumA {X : Cx} {e : Expr} {ta : TA} {p pos tpos : Pos} {elts : List Expr} {kk : Nat} (hg : Gl X "enumerate") (hm : X.mg "enumerate" = none) (ha : PA X [e] ta) (hs : starEach [e] X.env = [(false, eval e X.env)] := by rfl) :
    PI X (.Tuple elts kk tpos) (.Call (.Name "enumerate" p) [e] [] pos) (iEnumA X.K ta) := by
  refine ⟨fun pins s σ H R I h => ?_⟩
  refine Call_ (ld_blt I hg hm boot_enumerate (PyProof.Rows.callWith_type1 (thn (ha.run pos pins s σ H _ I h) fun us s1 ⟨vs, H1, I1, r1, q1⟩ => ?_) hs rfl))
  obtain ⟨a, xs, ex, q⟩ := q1
  subst ex
  cases r1 with
  | cons r rr =>
    cases rr
    cases r
    have fin : ∀ {h' : Heap}, (∀ b o, s1.heap.get? b = some o → h'.get? b = some o) → h'.objs.size = s1.heap.objs.size + 2 → ∀ b ∈ [s1.heap.objs.size + 1, s1.heap.objs.size], FpOk X pins H1 b := fun {h'} hk hsz b hb => by
      have e' : b = s1.heap.objs.size + 1 ∨ b = s1.heap.objs.size := by simpa using hb
      rcases e' with z | z
      · rw [z]; exact I1.fpOk (Nat.le_succ _) (I1.hok.fresh (Nat.le_succ _))
      · rw [z]; exact I1.fpOk (Nat.le_refl _) (I1.hok.fresh (Nat.le_refl _))
    rcases q with ⟨hq, q⟩ | ⟨hq, q⟩
    · obtain ⟨its, rv, p', hz⟩ := I1.list hq
      refine call_enumerate_list p'.isList fun h' he hit hsz hk => wpAny_pyIter_enum he ?_
      exact ⟨_, _, _, _, H1, rfl, I1.kept (t' := s1.toks) hk, turn_enum a _ _, ⟨⟨_, he⟩, hit, Nat.ne_of_gt (Nat.lt_succ_self _)⟩, fin hk hsz, q⟩
    · obtain ⟨its, rv, p', hz⟩ := I1.tuple hq
      refine call_enumerate_tuple (items := its.toArray) p' fun h' he hit hsz hk => wpAny_pyIter_enum he ?_
      refine ⟨_, _, _, _, H1, rfl, I1.kept (t' := s1.toks) hk, turn_enumT a _ _, ⟨⟨_, he⟩, hit, Nat.ne_of_gt (Nat.lt_succ_self _), ?_⟩, fin hk hsz, q⟩
      obtain ⟨o, ho, _⟩ := p'
      exact Nat.ne_of_lt (Heap.lt_size ho)
end PW

set_option Elab.async false
set_option linter.all false
set_option maxRecDepth 100000
set_option maxHeartbeats 1000000
namespace PW
open PySem PySem.Spec PyProof.Rows L2

/-! ### what is walked -/
structure Wk (K : PySem.W.Frag) (mg : Str → Option Value) (J : It) (ds : List D) (z : Z) : Prop where
  ex : ∃ (n : Nat) (G : Hp → Prop) (Y : Nat → Hp → V → Hp → Prop), Walk J n G Y ∧ n = ds.length ∧ (∀ z' H', Z.le z z' → ZOk K z' H' → G H') ∧
    ∀ i H x H' z', Z.le z z' → ZOk K z' H → i < n → Y i H x H' → ∃ z'' d, ds[i]? = some d ∧ Step K z' H z'' H' ∧ Rp K mg z'' x d
  size : ds.length ≤ sizeLine
section
variable (K : PySem.W.Frag) (mg : Str → Option Value) (mt : List Nat)
def kI (z : Z) (H : Hp) (R : It → Hp → Prop) : List D → Prop := fun ds => ∀ J z' H', Step K z H z' H' → Fct K H' → Wk K mg J ds z' → R J H'
def tI (f : Env → W (List D)) : TI := fun σ H R => ∃ z0 H0 z ρ, EnvR mt K mg z0 H0 z H σ ρ ∧ (f ρ).run (kI K mg z H R)
end
def EvI (M : Mo) (S : Fix) (tg e : Expr) (f : Env → W (List D)) : Prop := ∀ X, Good M S X → PI X tg e (tI X.K X.mg S.mt f)
theorem _root_.L2.PI.impW {X : Cx} {tg e : Expr} {t t' : TI} (h : PI X tg e t) (hi : ∀ σ H R, Fct X.K H → t' σ H R → t σ H (fun J H' => Fct X.K H' → R J H')) : PI X tg e t' :=
  ⟨fun pins s σ H R I hw => thn (h.run pins s σ H _ I (hi σ H R (fct_of I) hw)) fun v s1 q => thn q fun u s2 ⟨it, fp, tn, J, H', e1, I', T, t0, hf, r⟩ => ⟨it, fp, tn, J, H', e1, I', T, t0, hf, r (fct_of I')⟩⟩

section
variable {K : PySem.W.Frag} {mg : Str → Option Value} {z : Z} {a b : Addr} {xs ys : List V} {ds es : List D}
theorem wk_list (h : z.f a = some (.lst xs)) (r : RpL K mg z xs ds) (hz : xs.length ≤ sizeLine) : Wk K mg (Itl K a) ds z := by
  refine ⟨⟨xs.length, _, _, walk_list (xs := xs), r.length, fun z' H' l ok => .of (ok.sub _ _ (l.f _ _ h)), fun i H x H' z' l ok hi y => ?_⟩, by rw [← r.length]; exact hz⟩
  obtain ⟨rfl, e⟩ := y
  obtain ⟨d, e2, rd⟩ := r.getV e
  exact ⟨z', d, e2, Step.refl ok, rd.le l⟩
theorem wk_tup (h : z.f a = some (.tup xs)) (r : RpL K mg z xs ds) (hz : xs.length ≤ sizeLine) : Wk K mg (Itt K a) ds z := by
  refine ⟨⟨xs.length, _, _, walk_tup (xs := xs), r.length, fun z' H' l ok => .of (ok.sub _ _ (l.f _ _ h)), fun i H x H' z' l ok hi y => ?_⟩, by rw [← r.length]; exact hz⟩
  obtain ⟨rfl, e⟩ := y
  obtain ⟨d, e2, rd⟩ := r.getV e
  exact ⟨z', d, e2, Step.refl ok, rd.le l⟩
/-- lo, lo + 1, .. -/
def rngD (lo hi : Int) : List D := (List.range (hi - lo).toNat).map fun i => .int (lo + (i : Nat))
theorem rngD_len (lo hi : Int) : (rngD lo hi).length = (hi - lo).toNat := by unfold rngD; rw [List.length_map, List.length_range]
theorem wk_rng {lo hi : Int} (hz : (hi - lo).toNat ≤ sizeLine) : Wk K mg (Itr lo (hi - lo).toNat) (rngD lo hi) z := by
  refine ⟨⟨_, _, _, walk_range (lo := lo) (n := (hi - lo).toNat), (rngD_len lo hi).symm, fun z' H' l ok => trivial, fun i H x H' z' l ok hi' y => ?_⟩, by rw [rngD_len]; exact hz⟩
  obtain ⟨rfl, rfl⟩ := y
  refine ⟨z', .int (lo + i), ?_, Step.refl ok, .int _⟩
  unfold rngD
  rw [List.getElem?_map, List.getElem?_range hi']
  rfl
/-- pairs -/
def zipD (ds es : List D) : List D := List.zipWith (fun d e => .tup [d, e]) ds es
theorem zipD_len (ds es : List D) : (zipD ds es).length = min ds.length es.length := List.length_zipWith
theorem pair_step {z' : Z} {H H' : Hp} {x : V} {p q : Option V} {d e : D} (ok : ZOk K z' H) (y : ∃ T x' y', x = .ref T ∧ H T = none ∧ H' = upd H T (.tup [x', y']) ∧ p = some x' ∧ q = some y')
    (hd : ∀ v, p = some v → Rp K mg z' v d) (he : ∀ v, q = some v → Rp K mg z' v e) : ∃ z'', Step K z' H z'' H' ∧ Rp K mg z'' x (.tup [d, e]) := by
  obtain ⟨T, x', y', rfl, hT, rfl, h1, h2⟩ := y
  exact ⟨_, Step.put ok hT, .tup Z.put_at (.cons ((hd _ h1).le (Z.le_put (ok.free hT))) (.cons ((he _ h2).le (Z.le_put (ok.free hT))) .nil))⟩
theorem zipD_get {i : Nat} {d e : D} (h1 : ds[i]? = some d) (h2 : es[i]? = some e) : (zipD ds es)[i]? = some (.tup [d, e]) := by
  unfold zipD
  rw [List.getElem?_zipWith, h1, h2]
theorem zip_core {J : It} {G : Hp → Prop} {n : Nat} (w : Walk J n G (YPair (fun i => xs[i]?) (fun i => ys[i]?))) (hn : n = min xs.length ys.length) (hG : ∀ z' H', Z.le z z' → ZOk K z' H' → G H')
    (ra : RpL K mg z xs ds) (rb : RpL K mg z ys es) (hz : xs.length ≤ sizeLine) : Wk K mg J (zipD ds es) z := by
  have hl : n = (zipD ds es).length := by rw [zipD_len, ← ra.length, ← rb.length]; exact hn
  refine ⟨⟨n, G, _, w, hl, hG, fun i H x H' z' l ok hi y => ?_⟩, by rw [← hl, hn]; omega⟩
  have h1 : i < xs.length := by omega
  have h2 : i < ys.length := by omega
  obtain ⟨d, e1, rd⟩ := ra.getV (List.getElem?_eq_getElem h1)
  obtain ⟨e, e2, re⟩ := rb.getV (List.getElem?_eq_getElem h2)
  obtain ⟨z'', st, r⟩ := pair_step (d := d) (e := e) ok y (fun v q => by
    have q : xs[i]? = some v := q
    rw [List.getElem?_eq_getElem h1] at q
    cases q
    exact rd.le l) (fun v q => by
    have q : ys[i]? = some v := q
    rw [List.getElem?_eq_getElem h2] at q
    cases q
    exact re.le l)
  exact ⟨z'', _, zipD_get e1 e2, st, r⟩
def enumD (ds : List D) : List D := (List.range ds.length).zipWith (fun i d => .tup [.int (i : Nat), d]) ds
theorem enumD_len (ds : List D) : (enumD ds).length = ds.length := by unfold enumD; rw [List.length_zipWith, List.length_range, Nat.min_self]
theorem enumD_get {i : Nat} {d : D} (h : ds[i]? = some d) : (enumD ds)[i]? = some (.tup [.int (i : Nat), d]) := by
  have hi := (List.getElem?_eq_some_iff.mp h).1
  unfold enumD
  rw [List.getElem?_zipWith, List.getElem?_range hi, h]
theorem enum_core {J : It} {G : Hp → Prop} (w : Walk J xs.length G (YPair (fun i => some (.int (i : Nat))) (fun i => xs[i]?))) (hG : ∀ z' H', Z.le z z' → ZOk K z' H' → G H')
    (ra : RpL K mg z xs ds) (hz : xs.length ≤ sizeLine) : Wk K mg J (enumD ds) z := by
  have hl : xs.length = (enumD ds).length := by rw [enumD_len, ra.length]
  refine ⟨⟨xs.length, G, _, w, hl, hG, fun i H x H' z' l ok hi y => ?_⟩, by rw [← hl]; exact hz⟩
  obtain ⟨d, e1, rd⟩ := ra.getV (List.getElem?_eq_getElem hi)
  obtain ⟨z'', st, r⟩ := pair_step (mg := mg) (d := .int (i : Nat)) (e := d) ok y (fun v q => by cases q; exact .int _) (fun v q => by
    have q : xs[i]? = some v := q
    rw [List.getElem?_eq_getElem hi] at q
    cases q
    exact rd.le l)
  exact ⟨z'', _, enumD_get e1, st, r⟩
end

theorem walk_zipT {K : PySem.W.Frag} {a b : Addr} {xs ys : List V} {n : Nat} (hn : n = min xs.length ys.length) : Walk (RZ.ItzT K a b) n (fun H => SqT K H a xs ∧ SqT K H b ys) (YPair (fun i => xs[i]?) (fun i => ys[i]?)) := by
  subst hn
  refine ⟨fun i _ hi q => ?_, fun _ q => ⟨xs, ys, q.1, q.2, by omega⟩, fun i H v H' _ q y => ?_⟩
  · have h1 : i < xs.length := by omega
    have h2 : i < ys.length := by omega
    exact ⟨xs, ys, xs[i], ys[i], q.1, q.2, by simp [h1], by simp [h2]⟩
  · obtain ⟨T, x, z, h1, h2, h3, h4, h5⟩ := y
    exact ⟨T, x, z, h1, h2, h3, h4 xs q.1, h5 ys q.2⟩
/-- a list, a tuple, a range, walked -/
def D.iter : D → W (List D)
  | .tup xs => W.pure xs
  | .lst xs => W.pure xs
  | .rng lo hi => (W.need (-(2 ^ 62) ≤ lo ∧ lo < 2 ^ 62 ∧ -(2 ^ 62) ≤ hi ∧ hi < 2 ^ 62 ∧ (hi - lo).toNat ≤ sizeLine)).bind fun _ => W.pure (rngD lo hi)
  | _ => W.fail
def iAny (K : PySem.W.Frag) (tl : TE) : TI := fun σ H R => tl σ H fun x H1 => ∃ a, x = .ref a ∧ (((∃ xs, SqL K H1 a xs) ∧ R (Itl K a) H1) ∨ ((∃ xs, SqT K H1 a xs) ∧ R (Itt K a) H1) ∨
  ∃ lo hi, H1 a = some (.rng lo hi) ∧ (-(2 ^ 62) ≤ lo ∧ lo < 2 ^ 62 ∧ -(2 ^ 62) ≤ hi ∧ hi < 2 ^ 62) ∧ R (Itr lo (hi - lo).toNat) H1)
theorem pi_any {X : Cx} {tg l : Expr} {tl : TE} (hl : PE X l tl) : PI X tg l (iAny X.K tl) := by
  refine ⟨fun pins s σ H R I h => ?_⟩
  refine thn (hl.run pins s σ H _ I h) fun v s1 ⟨x, H1, I1, r1, q1⟩ => ?_
  obtain ⟨a, e, q⟩ := q1
  subst e
  cases r1
  rcases q with ⟨⟨xs, hq⟩, q⟩ | ⟨⟨xs, hq⟩, q⟩ | ⟨lo, hi, hq, ⟨h1, h2, h3, h4⟩, q⟩
  · obtain ⟨its, rv, p, hz⟩ := I1.list hq
    refine wpAny_pyIter_list p.isList ?_
    refine ⟨s1.heap.objs.size, [s1.heap.objs.size], _, _, H1, rfl, I1.kept (t' := s1.toks) fun b o e => Heap.get?_push_of_some _ e, turn_list a _, ⟨_, Heap.get?_push_size _ rfl, rfl, rfl⟩, fun b hb => ?_, q⟩
    have e : b = s1.heap.objs.size := by simpa using hb
    subst e
    exact I1.fpOk (Nat.le_refl _) (I1.hok.fresh (Nat.le_refl _))
  · obtain ⟨its, rv, p, hz⟩ := I1.tuple hq
    refine wpAny_pyIter_tuple (show s1.heap.IsTuple a its.toArray from p) ?_
    refine ⟨s1.heap.objs.size, [s1.heap.objs.size], _, _, H1, rfl, I1.kept (t' := s1.toks) fun b o e => Heap.get?_push_of_some _ e, turn_tuple a _, ⟨_, Heap.get?_push_size _ rfl, rfl, rfl⟩, fun b hb => ?_, q⟩
    have e : b = s1.heap.objs.size := by simpa using hb
    subst e
    exact I1.fpOk (Nat.le_refl _) (I1.hok.fresh (Nat.le_refl _))
  · obtain ⟨t, u, v, he⟩ : ∃ t u v, s1.heap.get? a = some { cls := .type "range", data := .fields #[.int lo t, .int hi u, .int 1 v] } := I1.hok a _ hq
    refine wpAny_pyIter_range he (small_one h1 h2 h3 h4) ?_
    refine ⟨s1.heap.objs.size, [s1.heap.objs.size], _, _, H1, rfl, I1.kept (t' := s1.toks) fun b o e => Heap.get?_push_of_some _ e, turn_range _ lo (hi - lo).toNat, ?_, fun b hb => ?_, q⟩
    · have e1 : lo + ((0 : Nat) : Int) * 1 = lo := by simp
      have e2 : (((hi - lo).toNat : Nat) : Int) - ((0 : Nat) : Int) = Builtin.Range.rangeSize lo hi 1 := by rw [rangeSize_one]; split <;> omega
      show IsRangeIter _ _ (lo + ((0 : Nat) : Int) * 1) ((((hi - lo).toNat : Nat) : Int) - ((0 : Nat) : Int)) 1
      rw [e1, e2]
      exact Heap.get?_push_size _ rfl
    · have e : b = s1.heap.objs.size := by simpa using hb
      subst e
      exact I1.fpOk (Nat.le_refl _) (I1.hok.fresh (Nat.le_refl _))

section
variable {M : Mo} {S : Fix} {tg e e2 : Expr} {f : Env → W D} {fs : Env → W (List D)} {p pos tpos : Pos} {elts : List Expr} {kk : Nat}
theorem i_val (he : EvV M S e f) : EvI M S tg e fun ρ => (f ρ).bind D.iter := fun X G => by
  refine (pi_any (he X G)).impW fun σ H R fc ⟨z0, H0, z, ρ, E, h⟩ => ⟨z0, H0, z, ρ, E, (f ρ).mono (fun d k v z1 H1 st1 fc1 r1 => ?_) h⟩
  cases d with
  | tup ds =>
    cases r1 with
    | tup hf r => exact ⟨_, rfl, .inr (.inl ⟨⟨_, .of (st1.ok.sub _ _ hf)⟩, fun _ => k _ z1 H1 st1 fc1 (wk_tup hf r (fc1.t _ _ (.of (st1.ok.sub _ _ hf))))⟩)⟩
  | lst ds =>
    cases r1 with
    | lst hf r => exact ⟨_, rfl, .inl ⟨⟨_, .of (st1.ok.sub _ _ hf)⟩, fun _ => k _ z1 H1 st1 fc1 (wk_list hf r (fc1.l _ _ (.of (st1.ok.sub _ _ hf))))⟩⟩
  | rng lo hi =>
    obtain ⟨⟨h1, h2, h3, h4, h5⟩, k⟩ := k
    cases r1 with
    | rng hf => exact ⟨_, rfl, .inr (.inr ⟨lo, hi, st1.ok.sub _ _ hf, ⟨h1, h2, h3, h4⟩, fun _ => k _ z1 H1 st1 fc1 (wk_rng h5)⟩)⟩
  | _ => exact (show False from k).elim
def D.rng1 : List D → W (List D)
  | [.int j] => (W.need (-(2 ^ 62) ≤ j ∧ j < 2 ^ 62 ∧ j.toNat ≤ sizeLine)).bind fun _ => W.pure (rngD 0 j)
  | _ => W.fail
def D.rng2 : List D → W (List D)
  | [.int i, .int j] => (W.need (-(2 ^ 62) ≤ i ∧ i < 2 ^ 62 ∧ -(2 ^ 62) ≤ j ∧ j < 2 ^ 62 ∧ (j - i).toNat ≤ sizeLine)).bind fun _ => W.pure (rngD i j)
  | _ => W.fail
theorem rng1_run {ds : List D} {Q : List D → Prop} (h : (D.rng1 ds).run Q) : ∃ j, ds = [.int j] ∧ (-(2 ^ 62) ≤ j ∧ j < 2 ^ 62 ∧ j.toNat ≤ sizeLine) ∧ Q (rngD 0 j) := by
  unfold D.rng1 at h
  split at h
  · exact ⟨_, rfl, h.1, h.2⟩
  · exact (show False from h).elim
theorem rng2_run {ds : List D} {Q : List D → Prop} (h : (D.rng2 ds).run Q) : ∃ i j, ds = [.int i, .int j] ∧ (-(2 ^ 62) ≤ i ∧ i < 2 ^ 62 ∧ -(2 ^ 62) ≤ j ∧ j < 2 ^ 62 ∧ (j - i).toNat ≤ sizeLine) ∧ Q (rngD i j) := by
  unfold D.rng2 at h
  split at h
  · exact ⟨_, _, rfl, h.1, h.2⟩
  · exact (show False from h).elim
theorem RBs.one {K : PySem.W.Frag} {mg : Str → Option Value} {z : Z} {H : Hp} {vs : List V} {d : D} (r : RBs K mg z H vs [d]) : ∃ v, vs = [v] ∧ RB K mg z H v d := by
  cases r with
  | cons h r => cases r; exact ⟨_, rfl, h⟩
theorem RBs.two {K : PySem.W.Frag} {mg : Str → Option Value} {z : Z} {H : Hp} {vs : List V} {d e : D} (r : RBs K mg z H vs [d, e]) : ∃ v u, vs = [v, u] ∧ RB K mg z H v d ∧ RB K mg z H u e := by
  cases r with
  | cons h r =>
    obtain ⟨u, rfl, h2⟩ := r.one
    exact ⟨_, _, rfl, h, h2⟩
theorem RpL.one {K : PySem.W.Frag} {mg : Str → Option Value} {z : Z} {vs : List V} {d : D} (r : RpL K mg z vs [d]) : ∃ v, vs = [v] ∧ Rp K mg z v d := by
  cases r with
  | cons h r => cases r; exact ⟨_, rfl, h⟩
theorem RpL.two {K : PySem.W.Frag} {mg : Str → Option Value} {z : Z} {vs : List V} {d e : D} (r : RpL K mg z vs [d, e]) : ∃ v u, vs = [v, u] ∧ Rp K mg z v d ∧ Rp K mg z u e := by
  cases r with
  | cons h r =>
    obtain ⟨u, rfl, h2⟩ := r.one
    exact ⟨_, _, rfl, h, h2⟩
theorem i_range1 (ha : EvAB M S [e] fs) (hf : decide (("range" : Str) ∈ M.free) = true := by kernel_rfl) (hg : S.sc.names.lookup ("range" : Str) = some .globalImplicit := by kernel_rfl) (hs : ∀ env, starEach [e] env = [(false, eval e env)] := by intro _; kernel_rfl) :
    EvI M S tg (.Call (.Name "range" p) [e] [] pos) fun ρ => (fs ρ).bind D.rng1 := fun X G => by
  refine (pi_range1 (gl_of G hg) (G.free _ (of_decide_eq_true hf)) (ha X G) (hs _)).impW fun σ H R fc ⟨z0, H0, z, ρ, E, h⟩ => ⟨z0, H0, z, ρ, E, (fs ρ).mono (fun ds k vs z1 H1 st1 fc1 r1 => ?_) h⟩
  obtain ⟨j, rfl, ⟨h1, h2, h3⟩, k⟩ := rng1_run k
  obtain ⟨v, rfl, r⟩ := r1.one
  have h3' : (j - 0).toNat ≤ sizeLine := by rw [Int.sub_zero]; exact h3
  have w := wk_rng (K := X.K) (mg := X.mg) (z := z1) (lo := 0) (hi := j) h3'
  rw [Int.sub_zero] at w
  exact ⟨j, by rw [r.int], h1, h2, fun _ => k _ z1 H1 st1 fc1 w⟩
theorem i_range2 (ha : EvAB M S [e, e2] fs) (hf : decide (("range" : Str) ∈ M.free) = true := by kernel_rfl) (hg : S.sc.names.lookup ("range" : Str) = some .globalImplicit := by kernel_rfl)
    (hs : ∀ env, starEach [e, e2] env = [(false, eval e env), (false, eval e2 env)] := by intro _; kernel_rfl) (hs2 : ∀ env, starEach [e2] env = [(false, eval e2 env)] := by intro _; kernel_rfl) :
    EvI M S tg (.Call (.Name "range" p) [e, e2] [] pos) fun ρ => (fs ρ).bind D.rng2 := fun X G => by
  refine (pi_range2 (gl_of G hg) (G.free _ (of_decide_eq_true hf)) (ha X G) (hs _) (hs2 _)).impW fun σ H R fc ⟨z0, H0, z, ρ, E, h⟩ => ⟨z0, H0, z, ρ, E, (fs ρ).mono (fun ds k vs z1 H1 st1 fc1 r1 => ?_) h⟩
  obtain ⟨i, j, rfl, ⟨h1, h2, h3, h4, h5⟩, k⟩ := rng2_run k
  obtain ⟨v, u, rfl, r, r'⟩ := r1.two
  exact ⟨i, j, by rw [r.int, r'.int], ⟨h1, h2, h3, h4⟩, fun _ => k _ z1 H1 st1 fc1 (wk_rng h5)⟩
/-- both lists, or both tuples -/
def D.zip : List D → W (List D)
  | [.tup xs, .tup ys] => W.pure (zipD xs ys)
  | [.lst xs, .lst ys] => W.pure (zipD xs ys)
  | _ => W.fail
theorem i_zip (ha : EvAV M S [e, e2] fs) (hf : decide (("zip" : Str) ∈ M.free) = true := by kernel_rfl) (hg : S.sc.names.lookup ("zip" : Str) = some .globalImplicit := by kernel_rfl)
    (hs : ∀ env, starEach [e, e2] env = (false, eval e env) :: starEach [e2] env := by intro _; kernel_rfl) (hpl : ∀ env, (backTo pos (starEach [e2] env)).any (·.1) = false := by intro _; kernel_rfl) :
    EvI M S (.Tuple elts kk tpos) (.Call (.Name "zip" p) [e, e2] [] pos) fun ρ => (fs ρ).bind D.zip := fun X G => by
  refine (RZ.pi_zipA (gl_of G hg) (G.free _ (of_decide_eq_true hf)) (ha X G) (hs _) (hpl _)).impW fun σ H R fc ⟨z0, H0, z, ρ, E, h⟩ => ⟨z0, H0, z, ρ, E, (fs ρ).mono (fun ds k vs z1 H1 st1 fc1 r1 => ?_) h⟩
  unfold D.zip at k
  split at k
  · obtain ⟨v, u, rfl, r, r'⟩ := r1.two
    cases r with
    | tup hf r =>
      cases r' with
      | tup hf' r' =>
        refine ⟨_, _, _, _, rfl, .inr ⟨.of (st1.ok.sub _ _ hf), .of (st1.ok.sub _ _ hf'), fun _ => k _ z1 H1 st1 fc1 (zip_core (walk_zipT rfl) rfl (fun z' H' l ok => ⟨.of (ok.sub _ _ (l.f _ _ hf)), .of (ok.sub _ _ (l.f _ _ hf'))⟩) r r' (fc1.t _ _ (.of (st1.ok.sub _ _ hf))))⟩⟩
  · obtain ⟨v, u, rfl, r, r'⟩ := r1.two
    cases r with
    | lst hf r =>
      cases r' with
      | lst hf' r' =>
        refine ⟨_, _, _, _, rfl, .inl ⟨.of (st1.ok.sub _ _ hf), .of (st1.ok.sub _ _ hf'), fun _ => k _ z1 H1 st1 fc1 (zip_core (walk_zip rfl) rfl (fun z' H' l ok => ⟨.of (ok.sub _ _ (l.f _ _ hf)), .of (ok.sub _ _ (l.f _ _ hf'))⟩) r r' (fc1.l _ _ (.of (st1.ok.sub _ _ hf))))⟩⟩
  · exact (show False from k).elim
def D.enum : List D → W (List D)
  | [.tup xs] => W.pure (enumD xs)
  | [.lst xs] => W.pure (enumD xs)
  | _ => W.fail
theorem i_enum (ha : EvAV M S [e] fs) (hf : decide (("enumerate" : Str) ∈ M.free) = true := by kernel_rfl) (hg : S.sc.names.lookup ("enumerate" : Str) = some .globalImplicit := by kernel_rfl) (hs : ∀ env, starEach [e] env = [(false, eval e env)] := by intro _; kernel_rfl) :
    EvI M S (.Tuple elts kk tpos) (.Call (.Name "enumerate" p) [e] [] pos) fun ρ => (fs ρ).bind D.enum := fun X G => by
  refine (pi_enumA (gl_of G hg) (G.free _ (of_decide_eq_true hf)) (ha X G) (hs _)).impW fun σ H R fc ⟨z0, H0, z, ρ, E, h⟩ => ⟨z0, H0, z, ρ, E, (fs ρ).mono (fun ds k vs z1 H1 st1 fc1 r1 => ?_) h⟩
  unfold D.enum at k
  split at k
  · obtain ⟨v, rfl, r⟩ := r1.one
    cases r with
    | tup hf r => exact ⟨_, _, rfl, .inr ⟨.of (st1.ok.sub _ _ hf), fun _ => k _ z1 H1 st1 fc1 (enum_core walk_enumT (fun z' H' l ok => .of (ok.sub _ _ (l.f _ _ hf))) r (fc1.t _ _ (.of (st1.ok.sub _ _ hf))))⟩⟩
  · obtain ⟨v, rfl, r⟩ := r1.one
    cases r with
    | lst hf r => exact ⟨_, _, rfl, .inl ⟨.of (st1.ok.sub _ _ hf), fun _ => k _ z1 H1 st1 fc1 (enum_core walk_enum (fun z' H' l ok => .of (ok.sub _ _ (l.f _ _ hf))) r (fc1.l _ _ (.of (st1.ok.sub _ _ hf))))⟩⟩
  · exact (show False from k).elim
end

/-! ### targets -/
inductive Tgt where
  | nm (i : Nat) | tp (is : List Nat)
def Tgt.slots : Tgt → List Nat
  | .nm i => [i]
  | .tp is => is
def setAll : List Nat → List D → Env → W Env
  | [], [], ρ => W.pure ρ
  | i :: is, d :: ds, ρ => setAll is ds (ρ.set i (some d))
  | _, _, _ => W.fail
def Tgt.set : Tgt → D → Env → W Env
  | .nm i, d, ρ => W.pure (ρ.set i (some d))
  | .tp is, .tup ds, ρ => setAll is ds ρ
  | _, _, _ => W.fail
section
variable (K : PySem.W.Frag) (mg : Str → Option Value) (mt : List Nat)
def kG (z0 : Z) (H0 : Hp) (z : Z) (H : Hp) (σ : Sg) (ρ : Env) (sl : List Nat) (Q : Sg → Hp → Prop) : Env → Prop := fun ρ' => ∀ σ', EnvR mt K mg z0 H0 z H σ' ρ' → (∀ vs, (∀ j ∈ sl, j ∈ vs) → wipe σ' vs = wipe σ vs) → (∀ i ∈ mt, σ'[i]? = σ[i]? ∧ ρ'[i]? = ρ[i]?) → Q σ' H
def tG (t : Tgt) : TG := fun v σ H Q => ∃ z0 H0 z ρ d, EnvR mt K mg z0 H0 z H σ ρ ∧ Rp K mg z v d ∧ (t.set d ρ).run (kG K mg mt z0 H0 z H σ ρ t.slots Q)
def tGs (is : List Nat) : TGs := fun vs σ H Q => ∃ z0 H0 z ρ ds, EnvR mt K mg z0 H0 z H σ ρ ∧ RpL K mg z vs ds ∧ (setAll is ds ρ).run (kG K mg mt z0 H0 z H σ ρ is Q)
end
def EvG (M : Mo) (S : Fix) (tg : Expr) (t : Tgt) : Prop := ∀ X, Good M S X → PG X tg (tG X.K X.mg S.mt t)
def EvGs (M : Mo) (S : Fix) (tgs : List Expr) (is : List Nat) : Prop := ∀ X, Good M S X → PGs X tgs (tGs X.K X.mg S.mt is)
theorem _root_.L2.PG.imp' {X : Cx} {tg : Expr} {t t' : TG} (h : PG X tg t) (hi : ∀ v σ H Q, Fct X.K H → t' v σ H Q → t v σ H Q) : PG X tg t' := ⟨fun pins s σ H v u Q I r hw => h.run pins s σ H v u Q I r (hi v σ H Q (fct_of I) hw)⟩
theorem _root_.L2.PGs.imp' {X : Cx} {tg : List Expr} {t t' : TGs} (h : PGs X tg t) (hi : ∀ v σ H Q, t' v σ H Q → t v σ H Q) : PGs X tg t' := ⟨fun pins s σ H v u Q I r hw => h.run pins s σ H v u Q I r (hi v σ H Q hw)⟩
theorem wipe_get {σ : Sg} : ∀ (vs : List Nat) (j : Nat), (wipe σ vs)[j]? = if j ∈ vs then (if j < σ.length then some none else none) else σ[j]?
  | [], j => by simp [wipe]
  | v :: vs, j => by
    unfold wipe
    by_cases h : v = j
    · subst h
      rw [if_pos List.mem_cons_self]
      by_cases hl : v < σ.length
      · rw [if_pos hl, List.getElem?_set_self (by rw [wipe_length]; exact hl)]
      · rw [if_neg hl]
        exact List.getElem?_eq_none (by rw [List.length_set, wipe_length]; omega)
    · rw [List.getElem?_set_ne h, wipe_get vs j]
      by_cases hj : j ∈ vs
      · rw [if_pos hj, if_pos (List.mem_cons_of_mem _ hj)]
      · rw [if_neg hj, if_neg (fun m => (List.mem_cons.mp m).elim (fun e => h e.symm) hj)]
theorem wipe_set {σ : Sg} {i : Nat} {o : Option V} {vs : List Nat} (h : i ∈ vs) : wipe (σ.set i o) vs = wipe σ vs := by
  apply List.ext_getElem?
  intro j
  rw [wipe_get, wipe_get, List.length_set]
  by_cases hj : j ∈ vs
  · rw [if_pos hj, if_pos hj]
  · rw [if_neg hj, if_neg hj, List.getElem?_set_ne (fun e => hj (by rw [← e]; exact h))]
section
variable {M : Mo} {S : Fix} {pos : Pos}
theorem g_nm (i : Nat) {x : Str} (hN : S.N[i]? = some x := by kernel_rfl) (hl : locC S.sc x = true := by kernel_rfl) (hf : fnC S x = true := by kernel_rfl)
    (hi : S.mt.contains i = false := by kernel_rfl) : EvG M S (.Name x pos) (.nm i) := fun X G => by
  refine (pg_name (i := i) (by rw [G.N]; exact G.nd) (by rw [G.N]; exact hN) (by rw [G.sc]; exact loc_of hl) (by rw [G.fn, G.sc]; exact fnC_of hf)).imp' fun v σ H Q fc ⟨z0, H0, z, ρ, d, E, r, h⟩ => ?_
  have hm : i ∉ S.mt := fun m => by rw [List.contains_iff_mem.mpr m] at hi; cases hi
  exact h _ (E.set hm r) (fun vs hv => wipe_set (hv i (List.mem_singleton.mpr rfl))) fun j hj => by
    have e : i ≠ j := fun q => hm (q ▸ hj)
    rw [List.getElem?_set_ne e, List.getElem?_set_ne e]
    exact ⟨rfl, rfl⟩
theorem gs_nil : EvGs M S [] [] := fun X G => pgs_nil.imp' fun vs σ H Q ⟨z0, H0, z, ρ, ds, E, r, h⟩ => by
  cases ds with
  | nil => exact ⟨by cases r; rfl, h σ E (fun _ _ => rfl) fun _ _ => ⟨rfl, rfl⟩⟩
  | cons _ _ => exact (show False from h).elim
theorem gs_cons {e : Expr} {es : List Expr} {i : Nat} {is : List Nat} (he : EvG M S e (.nm i)) (hs : EvGs M S es is) (ha : ∀ env, (assignEach (e :: es) env).map (·.2) = assign e env :: (assignEach es env).map (·.2) := by intro _; kernel_rfl) : EvGs M S (e :: es) (i :: is) := fun X G => by
  refine (pgs_cons (he X G) (hs X G) (ha _)).imp' fun vs σ H Q ⟨z0, H0, z, ρ, ds, E, r, h⟩ => ?_
  cases ds with
  | nil => exact (show False from h).elim
  | cons d ds =>
    cases r with
    | cons r1 r2 =>
      refine ⟨_, _, rfl, z0, H0, z, ρ, d, E, r1, fun σ1 E1 w1 m1 => ?_⟩
      refine ⟨z0, H0, z, _, ds, E1, r2, (setAll is ds _).mono (fun ρ' k σ' E' w' m' => k σ' E' (fun vs hv => ?_) fun j hj => ⟨(m' j hj).1.trans (m1 j hj).1, (m' j hj).2.trans (m1 j hj).2⟩) h⟩
      rw [w' vs fun j hj => hv j (List.mem_cons_of_mem _ hj)]
      exact w1 vs fun j hj => hv j (by rw [List.mem_singleton.mp hj]; exact List.mem_cons_self)
theorem setAll_len : ∀ {is : List Nat} {ds : List D} {ρ : Env} {Q : Env → Prop}, (setAll is ds ρ).run Q → ds.length = is.length
  | [], [], _, _, _ => rfl
  | _ :: is, _ :: ds, _, _, h => by rw [List.length_cons, List.length_cons, setAll_len (is := is) (ds := ds) h]
  | [], _ :: _, _, _, h => (show False from h).elim
  | _ :: _, [], _, _, h => (show False from h).elim
theorem g_tp {es : List Expr} {k : Nat} {is : List Nat} (h : EvGs M S es is) (hn : ∀ env, (assignEach es env).length = is.length := by intro _; kernel_rfl) (hst : ∀ env, (assignEach es env).findIdx? (·.1) = none := by intro _; kernel_rfl) :
    EvG M S (.Tuple es k pos) (.tp is) := fun X G => by
  refine (pg_tup G.calm (h X G) (hn _) (hst _)).imp' fun v σ H Q fc ⟨z0, H0, z, ρ, d, E, r, h⟩ => ?_
  cases d with
  | tup ds =>
    cases r with
    | tup hf r => exact ⟨_, _, rfl, .of (E.ok.sub _ _ hf), by rw [r.length]; exact setAll_len h, z0, H0, z, ρ, ds, E, r, h⟩
  | _ => exact (show False from h).elim
end
end PW

set_option Elab.async false
set_option linter.all false
set_option maxRecDepth 100000
set_option maxHeartbeats 1000000
namespace PW
open PySem PySem.Spec PyProof.Rows L2

/-! ### an object that nobody else knows changes -/
section
variable {K : PySem.W.Frag} {mg : Str → Option Value} {z z' z0 : Z} {H H' H0 : Hp} {p : Addr} {o : HO} {mt : List Nat} {σ : Sg} {ρ : Env}
theorem Step.was (s : Step K z H z' H') (hp : H' p = none) : H p = none := by
  cases q : H p with
  | none => rfl
  | some o =>
    by_cases hb : z.β p
    · exact absurd (s.le.β p hb) (s.ok.nβ hp)
    · rw [s.keep p o hb q] at hp; cases hp
theorem ZOk.other (h : ZOk K z H) (hf : z.f p = none) (hβ : ¬ z.β p) : ZOk K z (upd H p o) :=
  ⟨fun b x e => by rw [upd_ne (ne_of_none e hf)]; exact h.sub b x e, h.bag.keep (Same.refl _) rfl (fun a e => (h.bag a e).1) fun a o' e q => by rw [upd_ne (by intro x; exact hβ (by rw [← x]; exact e))]; exact q⟩
theorem Step.other (s : Step K z H z' H') (hp : H p = none) (hf : z'.f p = none) (hβ : ¬ z'.β p) : Step K z H z' (upd H' p o) :=
  ⟨s.le, s.ok.other hf hβ, fun b x h1 h2 => by rw [upd_ne (ne_of_none h2 hp)]; exact s.keep b x h1 h2, s.new, s.βn⟩
theorem EnvR.other (E : EnvR mt K mg z0 H0 z H σ ρ) (hp : H0 p = none) (hf : z.f p = none) (hβ : ¬ z.β p) (hs : ∀ i d, i ∈ mt → ρ[i]? = some (some d) → σ[i]? ≠ some (some (.ref p))) : EnvR mt K mg z0 H0 z (upd H p o) σ ρ := by
  refine ⟨E.st.other hp hf hβ, E.len, E.val, fun i d hi e => ?_, E.apart⟩
  obtain ⟨v, e2, a, o', rfl, f0, h0, b, q, c⟩ := E.own i d hi e
  refine ⟨_, e2, a, o', rfl, f0, h0, b, ?_, c⟩
  rw [upd_ne (fun x => hs i d hi e (by rw [e2, x]))]
  exact q
/-- the same slots forgotten in both -/
def wipeE (ρ : Env) : List Nat → Env
  | [] => ρ
  | v :: vs => (wipeE ρ vs).set v none
theorem wipeE_some {ρ : Env} {i : Nat} {d : D} : ∀ {vs : List Nat}, (wipeE ρ vs)[i]? = some (some d) → ρ[i]? = some (some d) ∧ i ∉ vs
  | [], h => ⟨h, List.not_mem_nil⟩
  | v :: vs, h => by
    unfold wipeE at h
    by_cases e : v = i
    · subst e
      by_cases hl : v < (wipeE ρ vs).length
      · rw [List.getElem?_set_self hl] at h; cases h
      · rw [List.getElem?_eq_none (by rw [List.length_set]; omega)] at h; cases h
    · rw [List.getElem?_set_ne e] at h
      obtain ⟨h1, h2⟩ := wipeE_some h
      exact ⟨h1, fun m => (List.mem_cons.mp m).elim (fun q => e q.symm) h2⟩
theorem wipeE_out {ρ : Env} {i : Nat} : ∀ {vs : List Nat}, i ∉ vs → (wipeE ρ vs)[i]? = ρ[i]?
  | [], _ => rfl
  | v :: vs, h => by
    unfold wipeE
    rw [List.getElem?_set_ne (fun (e : v = i) => h (by rw [e]; exact List.mem_cons_self))]
    exact wipeE_out fun m => h (List.mem_cons_of_mem _ m)
theorem wipeE_len {ρ : Env} : ∀ vs : List Nat, (wipeE ρ vs).length = ρ.length
  | [] => rfl
  | v :: vs => by unfold wipeE; rw [List.length_set, wipeE_len vs]
theorem EnvR.wipe (E : EnvR mt K mg z0 H0 z H σ ρ) (vs : List Nat) : EnvR mt K mg z0 H0 z H (L2.wipe σ vs) (wipeE ρ vs) := by
  have key : ∀ {i : Nat}, i ∉ vs → (L2.wipe σ vs)[i]? = σ[i]? := fun h => wipe_out h
  refine ⟨E.st, by rw [wipeE_len, wipe_length]; exact E.len, fun i d hi e => ?_, fun i d hi e => ?_, fun i j d e hi hj hij q q' => ?_⟩
  · obtain ⟨e1, e2⟩ := wipeE_some e
    rw [key e2]
    exact E.val i d hi e1
  · obtain ⟨e1, e2⟩ := wipeE_some e
    rw [key e2]
    exact E.own i d hi e1
  · obtain ⟨e1, e2⟩ := wipeE_some q
    obtain ⟨e3, e4⟩ := wipeE_some q'
    rw [key e2, key e4]
    exact E.apart i j d e hi hj hij e1 e3
theorem wipe_wipe {σ : Sg} {vs : List Nat} : L2.wipe (L2.wipe σ vs) vs = L2.wipe σ vs := by
  apply List.ext_getElem?
  intro j
  rw [wipe_get vs j, wipe_get vs j, wipe_length]
  by_cases hj : j ∈ vs
  · rw [if_pos hj, if_pos hj]
  · rw [if_neg hj, if_neg hj]
theorem EnvR.nown (E : EnvR mt K mg z0 H0 z H σ ρ) (hp : H p = none) : ∀ i d, i ∈ mt → ρ[i]? = some (some d) → σ[i]? ≠ some (some (.ref p)) := fun i d hi e q => by
  obtain ⟨v, e2, a, o', rfl, f0, h0, b, q2, c⟩ := E.own i d hi e
  rw [e2] at q
  cases q
  rw [hp] at q2
  cases q2
end

/-! ### the block of a comprehension -/
def Fix.blk (S : Fix) (scope : Scope) : Fix := ⟨S.N, relS scope S.sc, fun x => scope.names.lookup x == some .cell, S.mt⟩
theorem Good.blk {M : Mo} {S : Fix} {X : Cx} (G : Good M S X) (s : Shared) (H : Hp) (scope : Scope) (C : Addr) (cl : List (Str × Addr)) (fp : List Addr) : Good M (S.blk scope) (X.blk s H scope (compEnvC scope cl C X.env) fp) := by
  refine ⟨G.N, G.nd, ?_, rfl, G.calm, rfl, G.tab, G.room, G.free, G.con⟩
  show relS scope X.env.scope = relS scope S.sc
  rw [G.sc]
def EvTs (M : Mo) (S : Fix) (ifs : List Expr) (p : Env → W Bool) : Prop := ∀ X, Good M S X → PTs X ifs (tTs X.K X.mg S.mt p)
section
variable {M : Mo} {S : Fix}
theorem ts_nil : EvTs M S [] fun _ => W.pure true := fun X G => ⟨fun pins s σ H Q I ⟨z0, H0, z, ρ, E, h⟩ => pts_nil.run pins s σ H Q I (h z H (Step.refl E.ok) (fct_of I))⟩
theorem ts_one {c : Expr} {p : Env → W Bool} (h : EvT M S c p) : EvTs M S [c] p := fun X G => pts_one (h X G)
end

/-- [elt for t in ds if p]: what is made, behind acc -/
def compW (t : Tgt) (p : Env → W Bool) (f : Env → W D) : List D → Env → List D → W (List D)
  | [], _, acc => W.pure acc
  | d :: ds, ρ, acc => (t.set d ρ).bind fun ρ' => (p ρ').bind fun b => if b = true then (f ρ').bind fun y => compW t p f ds ρ (acc ++ [y]) else compW t p f ds ρ acc
theorem drop_get {α : Type} {ds : List α} {i : Nat} {d : α} (h : ds[i]? = some d) : ds.drop i = d :: ds.drop (i + 1) := by
  obtain ⟨hl, e⟩ := List.getElem?_eq_some_iff.mp h
  rw [List.drop_eq_getElem_cons hl, e]

/-- the state of a comprehension: D the list it makes -/
structure CSt (mt : List Nat) (K : PySem.W.Frag) (mg : Str → Option Value) (z0 : Z) (H0 : Hp) (zb : Z) (Hb : Hp) (z1 : Z) (Dl : Addr) (σ : Sg) (ρ : Env) (acc : List D) (z' : Z) (H' : Hp) : Prop where
  env : EnvR mt K mg z0 H0 z' H' σ ρ
  le : Z.le z1 z'
  st : Step K zb Hb z' H'
  f0 : z'.f Dl = none
  nβ : ¬ z'.β Dl
  own : ∀ i d, i ∈ mt → ρ[i]? = some (some d) → σ[i]? ≠ some (some (.ref Dl))
  h0 : H0 Dl = none
  hb : Hb Dl = none
  at_ : ∃ av, H' Dl = some (.lst av) ∧ RpL K mg z' av acc
section
variable {K : PySem.W.Frag} {mg : Str → Option Value} {z z' z0 z1 zb : Z} {H H' H0 Hb : Hp} {Dl : Addr} {mt : List Nat} {σ : Sg} {ρ : Env} {acc : List D}
theorem CSt.step {z'' : Z} {H'' : Hp} (c : CSt mt K mg z0 H0 zb Hb z1 Dl σ ρ acc z' H') (s : Step K z' H' z'' H'') : CSt mt K mg z0 H0 zb Hb z1 Dl σ ρ acc z'' H'' := by
  obtain ⟨av, q, r⟩ := c.at_
  refine ⟨c.env.step s, c.le.trans s.le, c.st.trans s, s.new _ _ c.f0 q trivial, fun e => ?_, c.own, c.h0, c.hb, av, s.keep _ _ c.nβ q, r.le s.le⟩
  rcases s.βn _ e with e | e
  · exact c.nβ e
  · rw [q] at e; cases e
theorem CSt.push {v : V} {d : D} (c : CSt mt K mg z0 H0 zb Hb z1 Dl σ ρ acc z' H') (r : Rp K mg z' v d) : ∃ av, H' Dl = some (.lst av) ∧ av.length = acc.length ∧ CSt mt K mg z0 H0 zb Hb z1 Dl σ ρ (acc ++ [d]) z' (upd H' Dl (.lst (av ++ [v]))) := by
  obtain ⟨av, q, ra⟩ := c.at_
  exact ⟨av, q, ra.length, c.env.other c.h0 c.f0 c.nβ c.own, c.le, c.st.other c.hb c.f0 c.nβ, c.f0, c.nβ, c.own, c.h0, c.hb, _, upd_same, ra.append (.cons r .nil)⟩
theorem CSt.begin (E : EnvR mt K mg z0 H0 zb Hb σ ρ) (st : Step K zb Hb z1 H) (hd : H Dl = none) : CSt mt K mg z0 H0 zb Hb z1 Dl σ ρ [] z1 (upd H Dl (.lst [])) := by
  have E1 := E.step st
  exact ⟨E1.step (Step.fresh st.ok hd), Z.le.refl _, st.trans (Step.fresh st.ok hd), st.ok.free hd, st.ok.nβ hd, E1.nown hd, E1.st.was hd, st.was hd, [], upd_same, .nil⟩
theorem CSt.fin {Q : VK} (c : CSt mt K mg z0 H0 zb Hb z1 Dl σ ρ acc z' H') (fc : Fct K H') (k : kF K mg zb Hb Q (.lst acc)) : Q (.ref Dl) H' := by
  obtain ⟨av, q, r⟩ := c.at_
  exact k Dl _ z' H' c.st fc c.hb c.f0 c.nβ q (.lst r)
end

section
variable {M : Mo} {S : Fix} {tg iter elt : Expr} {ifs : List Expr} {scope : Scope} {own : List (Str × Nat)} {pos : Pos} {fi : Env → W (List D)} {t : Tgt} {p : Env → W Bool} {f : Env → W D}
/-- a list comprehension -/
def lcW (fi : Env → W (List D)) (t : Tgt) (p : Env → W Bool) (f : Env → W D) (vs : List Nat) : Env → W D := fun ρ => (fi ρ).bind fun ds => (compW t p f ds (wipeE ρ vs) []).bind fun r => W.pure (.lst r)
theorem lc_read {K : PySem.W.Frag} {mg : Str → Option Value} {mt : List Nat} (vs : List Nat) (hsub : ∀ j ∈ t.slots, j ∈ vs) {σ : Sg} {H : Hp} {Q : VK} (hh : tFr K mg mt (lcW fi t p f vs) σ H Q) :
    tLc (tI K mg mt fi) (tG K mg mt t) (tTs K mg mt p) (tV K mg mt f) vs σ H (fun v H' => Fct K H' → Q v H') := by
  obtain ⟨z0, H0, z, ρ, E, h⟩ := hh
  refine ⟨z0, H0, z, ρ, E, (fi ρ).mono (fun ds k J z1 H1 st1 fc1 wk => fun Dl hDl => ?_) h⟩
  obtain ⟨⟨n, Gp, Y, wlk, hn, hG, hY⟩, hsz⟩ := wk
  refine lc_it wlk (fun i H' => ∃ acc z', CSt mt K mg z0 H0 z H z1 Dl (wipe σ vs) (wipeE ρ vs) acc z' H' ∧ acc.length ≤ i ∧
    (compW t p f (ds.drop i) (wipeE ρ vs) acc).run fun r => kF K mg z H Q (.lst r)) ⟨[], z1, CSt.begin (E.wipe vs) st1 hDl, Nat.zero_le _, k⟩ (fun i H' hi ⟨acc, z', c, hl, q⟩ => hG z' H' c.le c.st.ok) (fun i x H' H'' hi ⟨acc, z', c, hl, q⟩ y => ?_) fun H' ⟨acc, z', c, hl, q⟩ fc' => ?_
  · obtain ⟨z'', d, ed, st, r⟩ := hY i H' x H'' z' c.le c.st.ok hi y
    rw [drop_get ed] at q
    have c2 := c.step st
    refine ⟨z0, H0, z'', _, d, c2.env, r, (t.set d _).mono (fun ρ' k σ' E' w' m' => ⟨(w' vs hsub).trans wipe_wipe, z0, H0, z'', ρ', E', (p ρ').mono (fun b k z3 H3 st3 fc3 => ?_) k⟩) q⟩
    cases b with
    | false =>
      rw [if_neg Bool.false_ne_true]
      exact ⟨acc, z3, c2.step st3, by omega, k⟩
    | true =>
      rw [if_pos rfl]
      refine ⟨z0, H0, z3, ρ', E'.step st3, (f ρ').mono (fun y k v z4 H4 st4 fc4 r4 => ?_) k⟩
      obtain ⟨av, e1, e2, c3⟩ := ((c2.step st3).step st4).push r4
      exact ⟨av, e1, by omega, acc ++ [y], z4, c3, by rw [List.length_append]; show acc.length + 1 ≤ i + 1; omega, k⟩
  · rw [hn, List.drop_length] at q
    exact c.fin fc' q
theorem f_lc (own : List (Str × Nat)) (hi : EvI M S tg iter fi) (hg : EvG M (S.blk scope) tg t) (ht : EvTs M (S.blk scope) ifs p) (he : EvV M (S.blk scope) elt f) (hok : blkC S.N S.sc scope own = true := by kernel_rfl)
    (hsl : (t.slots.all fun j => (own.map (·.2)).contains j) = true := by kernel_rfl) (hs : ∀ env x, foldedSetIterable iter env x = pure x := by intro _ _; kernel_rfl) :
    EvF M S (.ListComp elt [⟨tg, iter, ifs, 0⟩] scope pos) (lcW fi t p f (own.map (·.2))) := fun X G =>
  (pe_lc (own := own) (g := tG X.K X.mg S.mt t) (tt := tTs X.K X.mg S.mt p) (te := tV X.K X.mg S.mt f) G.calm (by rw [G.N]; exact G.nd) (hi X G) (blkOk_by (by rw [G.N, G.sc]; exact hok)) (fun s H C cl fp => hg _ (G.blk s H scope C cl fp)) (fun s H C cl fp => ht _ (G.blk s H scope C cl fp))
    (fun s H C cl fp => he _ (G.blk s H scope C cl fp)) (hs _)).impW fun σ H Q fc h => lc_read _ (fun j hj => List.contains_iff_mem.mp (List.all_eq_true.mp hsl j hj)) h

/-- the inner clause -/
def compI (t : Tgt) (p : Env → W Bool) (f : Env → W D) : List D → Env → List D → W (List D)
  | [], _, acc => W.pure acc
  | d :: ds, ρ, acc => (t.set d ρ).bind fun ρ' => (p ρ').bind fun b => if b = true then (f ρ').bind fun y => (W.need (acc.length < sizeLine)).bind fun _ => compI t p f ds ρ (acc ++ [y]) else compI t p f ds ρ acc
def compO (t : Tgt) (p : Env → W Bool) (fi1 : Env → W (List D)) (vs1 : List Nat) (t1 : Tgt) (p1 : Env → W Bool) (f : Env → W D) : List D → Env → List D → W (List D)
  | [], _, acc => W.pure acc
  | d :: ds, ρ, acc => (t.set d ρ).bind fun ρ' => (p ρ').bind fun b => if b = true then (fi1 ρ').bind fun ds1 => (compI t1 p1 f ds1 (wipeE ρ' vs1) acc).bind fun acc' => compO t p fi1 vs1 t1 p1 f ds ρ acc'
    else compO t p fi1 vs1 t1 p1 f ds ρ acc
/-- one clause's run within a comprehension -/
theorem inner_run {K : PySem.W.Frag} {mg : Str → Option Value} {mt : List Nat} {z0 z1 zb : Z} {H0 Hb : Hp} {Dl : Addr} {σ1 : Sg} {ρ1 : Env} {t1 : Tgt} {p1 : Env → W Bool} {J1 : It} {ds1 : List D} {acc : List D} {Nx : Hp → Prop} {K' : List D → Prop} {z4 : Z} {H4 : Hp} {n : Nat} {Gp : Hp → Prop} {Y : Nat → Hp → V → Hp → Prop} {vs1 : List Nat}
    (wlk : Walk J1 n Gp Y) (hn : n = ds1.length) (hG : ∀ z' H', Z.le z4 z' → ZOk K z' H' → Gp H')
    (hY : ∀ i H x H' z', Z.le z4 z' → ZOk K z' H → i < n → Y i H x H' → ∃ z'' d, ds1[i]? = some d ∧ Step K z' H z'' H' ∧ Rp K mg z'' x d)
    (hsub : ∀ j ∈ t1.slots, j ∈ vs1) (c : CSt mt K mg z0 H0 zb Hb z1 Dl (wipe σ1 vs1) (wipeE ρ1 vs1) acc z4 H4) (q : (compI t1 p1 f ds1 (wipeE ρ1 vs1) acc).run K')
    (hN : ∀ acc' z' H', Z.le z4 z' → CSt mt K mg z0 H0 zb Hb z1 Dl (wipe σ1 vs1) (wipeE ρ1 vs1) acc' z' H' → K' acc' → Nx H') :
    ∃ W1 : Nat → Nat → Hp → Prop, (∃ m, W1 0 m H4) ∧ ∀ j k H, W1 j k H →
      (J1.stop j H ∧ Nx H) ∨ (J1.go j H ∧ ∃ Nx1 : Hp → Prop, (∀ H', Nx1 H' → ∃ k', k' < k ∧ W1 (j + 1) k' H') ∧ ∀ x H', J1.yld j H x H' → tG K mg mt t1 x (wipe σ1 vs1) H' fun σ3 H5 => wipe σ3 vs1 = wipe σ1 vs1 ∧ tTs K mg mt p1 σ3 H5 fun b H6 =>
        if b = true then tV K mg mt f σ3 H6 fun y H7 => ∃ acc, H7 Dl = some (.lst acc) ∧ acc.length < sizeLine ∧ Nx1 (upd H7 Dl (.lst (acc ++ [y]))) else Nx1 H6) := by
  refine ⟨fun j k H => k = n - j ∧ j ≤ n ∧ ∃ acc z', CSt mt K mg z0 H0 zb Hb z1 Dl (wipe σ1 vs1) (wipeE ρ1 vs1) acc z' H ∧ Z.le z4 z' ∧ (compI t1 p1 f (ds1.drop j) (wipeE ρ1 vs1) acc).run K', ⟨n, by simp, Nat.zero_le _, acc, z4, c, Z.le.refl _, q⟩, ?_⟩
  rintro j k H' ⟨rfl, hj, acc, z', c, l, q⟩
  have hGH := hG z' H' l c.st.ok
  by_cases hlt : j < n
  · refine .inr ⟨wlk.goes j H' hlt hGH, fun H' => ∃ acc z', CSt mt K mg z0 H0 zb Hb z1 Dl (wipe σ1 vs1) (wipeE ρ1 vs1) acc z' H' ∧ Z.le z4 z' ∧ (compI t1 p1 f (ds1.drop (j + 1)) (wipeE ρ1 vs1) acc).run K',
      fun H' hx => ⟨n - (j + 1), by omega, rfl, hlt, hx⟩, fun x H'' y => ?_⟩
    obtain ⟨z'', d, ed, st, r⟩ := hY j H' x H'' z' l c.st.ok hlt (wlk.yields j H' x H'' hlt hGH y)
    rw [drop_get ed] at q
    have c2 := c.step st
    refine ⟨z0, H0, z'', _, d, c2.env, r, (t1.set d _).mono (fun ρ' k σ' E' w' m' => ⟨(w' vs1 hsub).trans wipe_wipe, z0, H0, z'', ρ', E', (p1 ρ').mono (fun b k z3 H3 st3 fc3 => ?_) k⟩) q⟩
    cases b with
    | false =>
      rw [if_neg Bool.false_ne_true]
      exact ⟨acc, z3, c2.step st3, (l.trans st.le).trans st3.le, k⟩
    | true =>
      rw [if_pos rfl]
      refine ⟨z0, H0, z3, ρ', E'.step st3, (f ρ').mono (fun y k v z4' H4' st4 fc4 r4 => ?_) k⟩
      obtain ⟨hz, k⟩ := k
      obtain ⟨av, e1, e2, c3⟩ := ((c2.step st3).step st4).push r4
      exact ⟨av, e1, by omega, acc ++ [y], z4', c3, ((l.trans st.le).trans st3.le).trans st4.le, k⟩
  · have e : j = n := by omega
    subst e
    rw [hn, List.drop_length] at q
    exact .inl ⟨wlk.stops H' hGH, hN acc z' H' l c q⟩
theorem CSt.chg {K : PySem.W.Frag} {mg : Str → Option Value} {z' z0 z1 zb : Z} {H' H0 Hb : Hp} {Dl : Addr} {mt : List Nat} {σ σ' : Sg} {ρ ρ' : Env} {acc : List D} (c : CSt mt K mg z0 H0 zb Hb z1 Dl σ ρ acc z' H') (E : EnvR mt K mg z0 H0 z' H' σ' ρ')
    (h : ∀ i ∈ mt, ∀ d, ρ'[i]? = some (some d) → ∃ d', ρ[i]? = some (some d') ∧ σ'[i]? = σ[i]?) : CSt mt K mg z0 H0 zb Hb z1 Dl σ' ρ' acc z' H' :=
  ⟨E, c.le, c.st, c.f0, c.nβ, fun i d hi e => by
    obtain ⟨d', e1, e2⟩ := h i hi d e
    rw [e2]
    exact c.own i d' hi e1, c.h0, c.hb, c.at_⟩
def lc2W (fi : Env → W (List D)) (t : Tgt) (p : Env → W Bool) (fi1 : Env → W (List D)) (vs1 : List Nat) (t1 : Tgt) (p1 : Env → W Bool) (f : Env → W D) (vs : List Nat) : Env → W D := fun ρ => (fi ρ).bind fun ds => (compO t p fi1 vs1 t1 p1 f ds (wipeE ρ vs) []).bind fun r => W.pure (.lst r)
theorem lc2_read {K : PySem.W.Frag} {mg : Str → Option Value} {mt : List Nat} {fi1 : Env → W (List D)} {t1 : Tgt} {p1 : Env → W Bool} (vs vs1 : List Nat) (hsub : ∀ j ∈ t.slots, j ∈ vs) (hsub1 : ∀ j ∈ t1.slots, j ∈ vs1) (hsubv : ∀ j ∈ vs1, j ∈ vs) {σ : Sg} {H : Hp} {Q : VK} (hh : tFr K mg mt (lc2W fi t p fi1 vs1 t1 p1 f vs) σ H Q) :
    tLc2 (tI K mg mt fi) (tG K mg mt t) (tTs K mg mt p) (tI K mg mt fi1) (tG K mg mt t1) (tTs K mg mt p1) (tV K mg mt f) vs vs1 σ H (fun v H' => Fct K H' → Q v H') := by
  obtain ⟨z0, H0, z, ρ, E, h⟩ := hh
  refine ⟨z0, H0, z, ρ, E, (fi ρ).mono (fun ds k J z1 H1 st1 fc1 wk => fun Dl hDl => ?_) h⟩
  obtain ⟨⟨n, Gp, Y, wlk, hn, hG, hY⟩, hsz⟩ := wk
  refine ⟨fun i m H' => m = n - i ∧ i ≤ n ∧ ∃ acc z', CSt mt K mg z0 H0 z H z1 Dl (wipe σ vs) (wipeE ρ vs) acc z' H' ∧
    (compO t p fi1 vs1 t1 p1 f (ds.drop i) (wipeE ρ vs) acc).run fun r => kF K mg z H Q (.lst r), ⟨n, by simp, Nat.zero_le _, [], z1, CSt.begin (E.wipe vs) st1 hDl, k⟩, ?_⟩
  rintro i m H' ⟨rfl, hi', acc, z', c, q⟩
  have hGH := hG z' H' c.le c.st.ok
  by_cases hlt : i < n
  · refine .inr ⟨wlk.goes i H' hlt hGH, fun H' => ∃ acc z', CSt mt K mg z0 H0 z H z1 Dl (wipe σ vs) (wipeE ρ vs) acc z' H' ∧ (compO t p fi1 vs1 t1 p1 f (ds.drop (i + 1)) (wipeE ρ vs) acc).run fun r => kF K mg z H Q (.lst r),
      fun H' hx => ⟨n - (i + 1), by omega, rfl, hlt, hx⟩, fun x H'' y => ?_⟩
    obtain ⟨z'', d, ed, st, r⟩ := hY i H' x H'' z' c.le c.st.ok hlt (wlk.yields i H' x H'' hlt hGH y)
    rw [drop_get ed] at q
    have c2 := c.step st
    refine ⟨z0, H0, z'', _, d, c2.env, r, (t.set d _).mono (fun ρ' k σ' E' w' m' => ⟨(w' vs hsub).trans wipe_wipe, z0, H0, z'', ρ', E', (p ρ').mono (fun b k z3 H3 st3 fc3 => ?_) k⟩) q⟩
    cases b with
    | false =>
      rw [if_neg Bool.false_ne_true]
      exact ⟨acc, z3, c2.step st3, k⟩
    | true =>
      rw [if_pos rfl]
      refine ⟨z0, H0, z3, ρ', E'.step st3, (fi1 ρ').mono (fun ds1 k J1 z4 H4 st4 fc4 wk1 => ?_) k⟩
      obtain ⟨⟨n1, Gp1, Y1, wlk1, hn1, hG1, hY1⟩, hsz1⟩ := wk1
      have c4 := (c2.step st3).step st4
      have E4 := (E'.step st3).step st4
      refine inner_run (σ1 := σ') (ρ1 := ρ') (vs1 := vs1) wlk1 hn1 hG1 hY1 hsub1 (c4.chg (E4.wipe vs1) fun i hi d e => ?_) k fun acc' z5 H5 l5 c5 k5 => ?_
      · obtain ⟨e1, e2⟩ := wipeE_some e
        rw [(m' i hi).2] at e1
        exact ⟨d, e1, by rw [wipe_out e2]; exact (m' i hi).1⟩
      · have hle : Z.le z'' z5 := (st3.le.trans st4.le).trans l5
        have key : ∀ i, i ∈ mt → ∀ d, (wipeE ρ vs)[i]? = some (some d) → (wipeE ρ' vs1)[i]? = some (some d) ∧ (wipe σ' vs1)[i]? = (wipe σ vs)[i]? := fun i hi d e => by
          obtain ⟨e1, e2⟩ := wipeE_some e
          have e3 : i ∉ vs1 := fun m => e2 (hsubv i m)
          exact ⟨by rw [wipeE_out e3, (m' i hi).2]; exact e, by rw [wipe_out e3]; exact (m' i hi).1⟩
        have E6 := c5.env
        have E5 : EnvR mt K mg z0 H0 z5 H5 (wipe σ vs) (wipeE ρ vs) := by
          refine ⟨E6.st, (c2.env).len, fun j d hj e1 => ?_, fun j d hj e1 => ?_, c2.env.apart⟩
          · obtain ⟨v, e2, r2⟩ := c2.env.val j d hj e1
            exact ⟨v, e2, r2.le hle⟩
          · obtain ⟨e2, e3⟩ := key j hj d e1
            rw [← e3]
            exact E6.own j d hj e2
        refine ⟨acc', z5, c5.chg E5 fun i hi d e => ?_, k5⟩
        obtain ⟨e2, e3⟩ := key i hi d e
        exact ⟨d, e2, e3.symm⟩
  · have e : i = n := by omega
    subst e
    rw [hn, List.drop_length] at q
    exact .inl ⟨wlk.stops H' hGH, fun fc' => c.fin fc' q⟩
theorem f_lc2 {tg1 iter1 : Expr} {ifs1 : List Expr} {fi1 : Env → W (List D)} {t1 : Tgt} {p1 : Env → W Bool} (own : List (Str × Nat)) (vs1 : List Nat) (hi : EvI M S tg iter fi) (hg : EvG M (S.blk scope) tg t) (ht : EvTs M (S.blk scope) ifs p)
    (hi1 : EvI M (S.blk scope) tg1 iter1 fi1) (hg1 : EvG M (S.blk scope) tg1 t1) (ht1 : EvTs M (S.blk scope) ifs1 p1) (he : EvV M (S.blk scope) elt f) (hok : blkC S.N S.sc scope own = true := by kernel_rfl)
    (hsl : (t.slots.all fun j => (own.map (·.2)).contains j) = true := by kernel_rfl) (hsl1 : (t1.slots.all fun j => vs1.contains j) = true := by kernel_rfl) (hv1 : (vs1.all fun j => (own.map (·.2)).contains j) = true := by kernel_rfl)
    (hs : ∀ env x, foldedSetIterable iter env x = pure x := by intro _ _; kernel_rfl) (hs1 : ∀ env x, foldedSetIterable iter1 env x = pure x := by intro _ _; kernel_rfl) :
    EvF M S (.ListComp elt [⟨tg, iter, ifs, 0⟩, ⟨tg1, iter1, ifs1, 0⟩] scope pos) (lc2W fi t p fi1 vs1 t1 p1 f (own.map (·.2))) := fun X G => by
  have hsub1 : ∀ j ∈ t1.slots, j ∈ vs1 := fun j hj => List.contains_iff_mem.mp (List.all_eq_true.mp hsl1 j hj)
  have hsubv : ∀ j ∈ vs1, j ∈ own.map (·.2) := fun j hj => List.contains_iff_mem.mp (List.all_eq_true.mp hv1 j hj)
  exact (pe_lc2 (own := own) (vs1 := vs1) (g := tG X.K X.mg S.mt t) (tt := tTs X.K X.mg S.mt p) (wi1 := tI X.K X.mg S.mt fi1) (g1 := tG X.K X.mg S.mt t1) (tt1 := tTs X.K X.mg S.mt p1) (te := tV X.K X.mg S.mt f) G.calm (by rw [G.N]; exact G.nd) (hi X G) (blkOk_by (by rw [G.N, G.sc]; exact hok)) hsubv
    (fun s H C cl fp => hg _ (G.blk s H scope C cl fp)) (fun s H C cl fp => ht _ (G.blk s H scope C cl fp)) (fun s H C cl fp => hi1 _ (G.blk s H scope C cl fp)) (fun s H C cl fp => hg1 _ (G.blk s H scope C cl fp)) (fun s H C cl fp => ht1 _ (G.blk s H scope C cl fp))
    (fun s H C cl fp => he _ (G.blk s H scope C cl fp)) (hs _) hs1).impW fun σ H Q fc h => lc2_read _ _ (fun j hj => List.contains_iff_mem.mp (List.all_eq_true.mp hsl j hj)) hsub1 hsubv h
end
end PW

set_option Elab.async false
set_option linter.all false
set_option maxRecDepth 100000
set_option maxHeartbeats 1000000
/-! sorting tuples, empty ones among them; the lists that sorted makes of a tuple -/
namespace PySem.SeqAt
theorem pw_call_tuple_lt {A : Around} {s : Shared} {prog : Program} {w : World} {E : Value → Shared → Prop} {Q : Value → Shared → Prop} {l b : Addr} {items items2 : Array Value} {e r : Nat → Bool} (hl : s.heap.IsTuple l items) (hb : s.heap.IsTuple b items2)
    (he : ∀ j (h1 : j < items.size) (h2 : j < items2.size), EqAt A.in1 s items[j] items2[j] (e j)) (hr : ∀ j (h1 : j < items.size) (h2 : j < items2.size), e j = false → RcLt A.in1 s items[j] items2[j] (r j))
    (h : Q (.bool (firstLt e r (decide (items.size < items2.size)) (List.range (min items.size items2.size)))) s) : wpAny (model prog w) A (call (.builtin "tuple.__lt__") [.ref l, .ref b]) Q E s := by
  obtain ⟨⟨cls, dd, data, sl⟩, ho, hc, n, hd⟩ := id hl
  obtain ⟨⟨cls2, dd2, data2, sl2⟩, ho2, hc2, n2, hd2⟩ := id hb
  simp only at hc hd hc2 hd2
  subst hc hd hc2 hd2
  exact call_meets F.slot_tuple_lt ⟨_, ho, rfl⟩ F.entry_tuple_lt (F.args_tuple_lt_2 _ _) (tuple_ltAt l b items items2 n n2 dd dd2 sl sl2 e r) ⟨ho, ho2, he, hr, h⟩
end PySem.SeqAt
namespace PySem.W
open PySem PySem.SeqAt PySem.Calls PyProof.Rows
section
variable {prog : Program} {w : World} {A : Around} {E : Value → Shared → Prop} {s : Shared}
theorem pw_oneLt_tup {f : Bool} {xs ys : List PyData} {a b : Value} {as bs : List Addr} {Q : Bool → Shared → Prop} (ra : Reads s.heap a (.tuple xs) as) (rb : Reads s.heap b (.tuple ys) bs) (h : alike (.tuple xs) (.tuple ys) = true)
    (hu : A.units + min (PyData.tuple xs).depth (PyData.tuple ys).depth < cLine) (hq : Q (dataLt (.tuple xs) (.tuple ys)) s) : wpAny (model prog w) A (oneLt' f a b) Q E s := by
  cases f with
  | false => exact oneLt_alike (fun z => nomatch z) ra rb h (fun z => nomatch z) hu hq
  | true =>
    have hal : alikeAll xs ys = true := by simpa [alike] using h
    cases ra with
    | @tuple l o vs n _ as₁ h1 h2 h3 h4 =>
      cases rb with
      | @tuple l' o' vs' n' _ bs₁ k1 k2 k3 k4 =>
        have n1 : vs.size = xs.length := by simpa using ReadsAll.length _ _ _ h4
        have n2 : vs'.size = ys.length := by simpa using ReadsAll.length _ _ _ k4
        rw [dataLt_tuple, ← firstLt_toks xs ys hal, ← n1, ← n2] at hq
        rw [oneLt'_eq]
        simp only [if_true]
        refine wpAny_bind (wpAny_cRoomFor (room_here hu) ?_)
        refine wpAny_bind (wpAny_callSpecialIfBound?_slot (T := "tuple") ⟨_, h1, h2⟩ F.slot_tuple_lt (pw_call_tuple_lt (e := pairEq xs ys) (r := fun j => dataLt (xs.getD j .none) (ys.getD j .none)) ⟨_, h1, h2, _, h3⟩ ⟨_, k1, k2, _, k3⟩ (fun j j1 j2 => ?_) (fun j j1 j2 hj => ?_) ?_))
        · have := eqAt_alikeAll xs ys A.in1 s vs.toList vs'.toList _ _ h4 k4 hal (room_in hu) j (by simpa using j1) (by simpa using j2)
          simpa using this
        · have := rcLt_alikeAll xs ys A.in1 s vs.toList vs'.toList _ _ h4 k4 hal (room_in hu) j (by simpa using j1) (by simpa using j2) hj
          simpa using this
        · exact wpAny_truthy_bool hq
end
/-- the first item of a tuple -/
def PwFst (h : Heap) (v : Value) (f : Option Value) : Prop := ∃ a o xs n, v = .ref a ∧ h.get? a = some o ∧ o.cls = .type "tuple" ∧ o.data = .seq xs n ∧ f = xs[0]?
section
variable {M : Model} {A : Around} {E : Value → Shared → Prop} {s : Shared}
theorem pw_firsts : ∀ {vs : List Value} {fs : List (Option Value)} {Q : List (Option Value) → Shared → Prop}, EachIs (PwFst s.heap) vs fs → Q fs s → wpAny M A (vs.mapM firstOfTuple') Q E s
  | _, _, _, .nil, h => by rw [List.mapM_nil]; exact wpAny_pure h
  | _, _, Q, .cons ⟨a, o, xs, n, e, ho, hc, hd, hf⟩ t, h => by
    subst e
    subst hf
    rw [List.mapM_cons]
    refine wpAny_bind ?_
    rw [kas_first_eq]
    refine wpAny_bind (Looks.here (show Looks M s.heap (typeOf (.ref a)) o.cls from (Looks.ld ho).andThen .now) ?_)
    rw [hc, if_neg (by first | decide | simp)]
    refine wpAny_bind (listItems_at ho hd (wpAny_pure ?_))
    exact wpAny_bind (pw_firsts (Q := fun bs s' => wpAny M A (pure (xs[0]? :: bs)) Q E s') t (wpAny_pure h))
theorem pw_each_all : ∀ {vs : List Value} {fs : List (Option Value)}, EachIs (PwFst s.heap) vs fs → ∀ v ∈ vs, Looks M s.heap (typeOf v) (.type "tuple")
  | _, _, .cons ⟨a, o, xs, n, e, ho, hc, hd, hf⟩ t, v, hv => by
    rcases List.mem_cons.mp hv with rfl | hv
    · subst e
      exact hc ▸ (Looks.ld ho).andThen .now
    · exact pw_each_all t v hv
theorem pw_kind_mixed {M : Model} {A : Around} {s : Shared} {vs : List Value} {fs : List (Option Value)} (t : EachIs (PwFst s.heap) vs fs) (hne : 0 < vs.length) (hno : fs.all (·.isSome) = false) :
    ∃ kd : SortKind, (kd = general' ∨ kd = oneType') ∧ ∀ (E : Value → Shared → Prop) {Q : SortKind → Shared → Prop}, Q kd s → wpAny M A (keyKind' vs.toArray) Q E s := by
  by_cases hf : ((fs.toArray[0]?).bind id).isSome = true
  · refine ⟨general', .inl rfl, fun E Q h => ?_⟩
    rw [kat_kind_eq, List.mapM_toArray, map_eq_pure_bind]
    refine wpAny_bind (wpAny_bind (pw_firsts t (wpAny_pure ?_)))
    rw [if_neg (by simp only [List.all_toArray]; rw [hno]; exact Bool.false_ne_true), if_pos hf]
    exact wpAny_pure h
  · refine ⟨oneType', .inr rfl, fun E Q h => ?_⟩
    rw [kat_kind_eq, List.mapM_toArray, map_eq_pure_bind]
    refine wpAny_bind (wpAny_bind (pw_firsts t (wpAny_pure ?_)))
    rw [if_neg (by simp only [List.all_toArray]; rw [hno]; exact Bool.false_ne_true), if_neg hf]
    rw [oneTypeOnly'_eq, List.mapM_toArray, map_eq_pure_bind]
    refine wpAny_bind (wpAny_bind (wpAny_bind (kas_mapM (r := Value.type "tuple") _ (fun v hv Q' hq => (pw_each_all t v hv).here hq) (wpAny_pure ?_))))
    have hall : ((List.map (fun _ => Value.type "tuple") vs).toArray.all fun x => x == Value.type "tuple") = true := by
      simp only [List.all_toArray, List.all_map, List.all_eq_true]
      intro _ _
      rfl
    have h0 : (List.map (fun _ => Value.type "tuple") vs).toArray[0]? = some (Value.type "tuple") := by
      cases vs with
      | nil => exact absurd hne (Nat.lt_irrefl 0)
      | cons v vs => simp
    rw [h0]
    simp only [hall, if_true]
    exact wpAny_pure (wpAny_pure h)
end
/-- all are tuples with an item at least, or all are tuples, or none is a tuple or None -/
def PwSortable (ds : List PyData) : Prop := (∀ d, d ∈ ds → ∃ xs, d = .tuple xs) ∨ ∀ d, d ∈ ds → d ≠ .none ∧ ∀ xs, d ≠ .tuple xs
section
variable {prog : Program} {w : World} {A : Around} {s : Shared}
theorem pw_fsts : ∀ {vs : List Value} {ds : List PyData}, EachIs (fun v d => ∃ as, Reads s.heap v d as) vs ds → (∀ d, d ∈ ds → ∃ xs, d = .tuple xs) → ∃ fs, EachIs (PwFst s.heap) vs fs ∧ (fs.all (·.isSome) = true → ∀ d, d ∈ ds → ∃ x r, d = .tuple (x :: r))
  | _, _, .nil, _ => ⟨[], .nil, fun _ d hd => absurd hd (by simp)⟩
  | _, _, .cons (b := d) ⟨as, r⟩ t, ht => by
    obtain ⟨fs, h1, h2⟩ := pw_fsts t fun d hd => ht d (List.mem_cons_of_mem _ hd)
    obtain ⟨ys, rfl⟩ := ht d List.mem_cons_self
    cases r with
    | @tuple a o xs n _ _ ho hc hdd hr =>
      refine ⟨xs[0]? :: fs, .cons ⟨a, o, xs, n, rfl, ho, hc, hdd, rfl⟩ h1, fun hall d hd => ?_⟩
      rw [List.all_cons, Bool.and_eq_true] at hall
      rcases List.mem_cons.mp hd with rfl | hd
      · cases ys with
        | cons y ys => exact ⟨y, ys, rfl⟩
        | nil =>
          have e : xs.toList.length = 0 := by
            cases q : xs.toList with
            | nil => rfl
            | cons _ _ => rw [q] at hr; cases hr
          rw [Array.length_toList] at e
          rw [Array.getElem?_eq_none (by omega)] at hall
          exact absurd hall.1 (by simp)
      · exact h2 hall.2 d hd
theorem pw_sortsAt {vs : List Value} {ds : List PyData} (e : EachIs (fun v d => ∃ as, Reads s.heap v d as) vs ds) (hal : AllAlike ds) (hk : PwSortable ds) (hu : ∀ d, d ∈ ds → A.units + d.depth < cLine) : SortsAt prog w A s (dataKind s.heap ds) vs := by
  rcases hk with ht | hn
  · obtain ⟨fs, h1, h2⟩ := pw_fsts e ht
    cases q : fs.all (·.isSome) with
    | true => exact SortsAt.data e hal (.inl (h2 q)) hu
    | false =>
      refine ⟨fun v hv => ?_, ?_⟩
      · obtain ⟨d, hd, as, r⟩ := e.left v hv
        exact ⟨_, dataKind_some hal hd r⟩
      · have lt : ∀ kd, (∀ x y, ∃ f, keyLt' kd x y = oneLt' f x y) → H.LtAt prog w A s (dataKind s.heap ds) kd := fun kd hkd E x y a b Q ha hb hq => by
          obtain ⟨f, hf⟩ := hkd x y
          obtain ⟨d, as, hd, ra, rfl⟩ := dataKind_inv ha
          obtain ⟨d', as', hd', rb, rfl⟩ := dataKind_inv hb
          have hdd := hal d hd d' hd'
          obtain ⟨xs, rfl⟩ := ht d hd
          obtain ⟨ys, rfl⟩ := ht d' hd'
          rw [hf]
          exact pw_oneLt_tup ra rb hdd (Nat.lt_of_le_of_lt (Nat.add_le_add_left (Nat.min_le_left _ _) _) (hu _ hd)) hq
        cases vs with
        | nil =>
          cases h1
          exact absurd q (by simp)
        | cons v0 vs =>
          obtain ⟨kd, hkd, hK⟩ := pw_kind_mixed (M := model prog w) (A := A) h1 (Nat.zero_lt_succ _) q
          refine ⟨kd, lt kd fun x y => ?_, fun _ => hK⟩
          rcases hkd with rfl | rfl
          · exact ⟨false, rfl⟩
          · exact ⟨true, rfl⟩
  · exact SortsAt.data e hal (.inr hn) hu
end

section
variable {prog : Program} {w : World} {A : Around} {E : Value → Shared → Prop} {s : Shared}
theorem pw_collect_tuple {l : Addr} {vs : List Value} {Q : List Value → Shared → Prop} (hl : s.heap.IsTuple l vs.toArray)
    (h : Q vs { s with heap := (s.heap.push (seqObj "list" #[] 0)).update s.heap.objs.size (Obj.mapSeq (· ++ vs.toArray)) }) (hsz : vs.length ≤ sizeLine) :
    wpAny (model prog w) A (collect (.ref l)) Q E s := by
  obtain ⟨o, ho, hc, n, hd⟩ := id hl
  unfold collect
  refine wpAny_bind (wpAny_runValue (codeAny_builtin entry_proto_collect' ?_))
  show wpAny _ _ (do again (.builtin "list.__iadd__" ⟨[← newList [], .ref l], []⟩)) _ _ s
  refine wpAny_bind (wpAny_newList (wpAny_pure ⟨Code.quiet_builtin _ (by decide +kernel), codeAny_builtin entry_list_iadd' ?_⟩))
  show wpAny _ _ (Builtin.List.listExtendWith (.ref s.heap.objs.size) (.ref l) (.ref s.heap.objs.size)) _ _ { s with heap := s.heap.push (seqObj "list" #[] 0) }
  unfold Builtin.List.listExtendWith
  have ho' : (s.heap.push (seqObj "list" #[] 0)).get? l = some o := Heap.get?_push_of_some _ ho
  refine wpAny_bind (wpAny_typeOf (T := "tuple") ⟨o, ho', hc⟩ ?_)
  have ht : (Value.type "tuple" == Value.type "tuple") = true := by rfl
  rw [if_pos (by rw [ht]; simp)]
  refine wpAny_bind (listItems_at ho' hd ?_)
  refine wpAny_bind (listItems_at (xs := #[]) (n := 0) (Heap.get?_push_size _ rfl) rfl ?_)
  rw [if_neg (by simp)]
  refine wpAny_bind (listUpdate_at (xs := #[]) (n := 0) (Heap.get?_push_size _ rfl) rfl ?_ (Nat.zero_le _) (by show (#[] ++ vs.toArray).size ≤ sizeLine + 1; simp only [Array.size_append, List.size_toArray, List.length_nil]; omega))
  refine wpAny_pure ?_
  show wpAny (model prog w) A (do
      let o ← load s.heap.objs.size
      match o.data with
      | .seq xs _ => pure xs.toList
      | _ => unsupported "internal:collect") Q E { s with heap := (s.heap.push (seqObj "list" #[] 0)).update s.heap.objs.size (Obj.mapSeq (· ++ vs.toArray)) }
  refine wpAny_bind (wpAny_load (get?_update_seq (Heap.get?_push_size _ rfl) _) ?_)
  show wpAny _ _ (pure ((#[] : Array Value) ++ vs.toArray).toList) Q E _
  rw [show ((#[] : Array Value) ++ vs.toArray).toList = vs by simp]
  exact wpAny_pure h
/-- sorted(x), whatever collect makes of x -/
theorem pw_sorted_of {x : Value} {Q : Value → Shared → Prop} {β : Type} {enc : β → PyData} {R : Value → β → Prop} {bs : List β}
    (hc : ∀ (E' : Value → Shared → Prop) (Q' : List Value → Shared → Prop), (∀ vs h' tk, (∀ b o, s.heap.get? b = some o → h'.get? b = some o) → EachIs (fun v d => R v d ∧ ∃ as, Reads h' v (enc d) as) vs bs → Q' vs { s with heap := h', toks := tk }) → wpAny (model prog w) A.in1 (collect x) Q' E' s)
    (hal : AllAlike (bs.map enc)) (hk : PwSortable (bs.map enc)) (hL : bs.length ≤ sizeLine) (hu : ∀ b, b ∈ bs → A.units + 2 + (enc b).depth < cLine)
    (h : ∀ (p : Addr) (h1 h' : Heap) (tk' : Nat) out c, (∀ b o, s.heap.get? b = some o → h1.get? b = some o) → h1.objs.size ≤ p → (∀ b o, h1.get? b = some o → h'.get? b = some o) → h'.get? p = some (seqObj "list" (List.toArray out) c) → EachIs R out (bs.mergeSort (dataLe false enc)) → Q (.ref p) { s with heap := h', toks := tk' }) :
    wpAny (model prog w) A (call (.builtin "sorted") [x]) Q E s := by
  refine call_function_entry kind_sorted plain_sorted entry_sorted (args_sorted1 _) ?_
  unfold Builtin.«sorted»
  refine wpAny_bind (m := checkCount "sorted" 1 1 _) (wpAny_pure ?_)
  refine wpAny_bind (hc _ _ fun vs h' tk hkeep he => ?_)
  have hlen : vs.length = bs.length := he.length
  refine wpAny_bind (wpAny_newList ?_ (by rw [hlen]; exact hL))
  have hoL : (h'.push (seqObj "list" vs.toArray 0)).get? h'.objs.size = some (seqObj "list" vs.toArray 0) := Heap.get?_push_size _ rfl
  show wpAny _ _ _ _ _ { s with heap := h'.push (seqObj "list" vs.toArray 0), toks := tk }
  have keep2 : ∀ b o, h'.get? b = some o → (sortingHeap (h'.push (seqObj "list" vs.toArray 0)) h'.objs.size vs).get? b = some o := fun b o e =>
    sortingHeap_old (Nat.ne_of_lt (Heap.lt_size e)) (Heap.get?_push_of_some _ e)
  have er : EachIs (fun v d => ∃ as, Reads (sortingHeap (h'.push (seqObj "list" vs.toArray 0)) h'.objs.size vs) v (enc d) as) vs bs := he.mono fun v d ⟨_, as, r⟩ => ⟨as, PyProof.Rows.Reads.keeps keep2 r⟩
  refine wpAny_bind (wpAny_holding (wpAny_call_entry slot_list_sort ⟨_, hoL, rfl⟩ entry_list_sort
    (list_sort_vals (s := { s with heap := h'.push (seqObj "list" vs.toArray 0), toks := tk }) hoL
      (pw_sortsAt (s := { s with heap := sortingHeap (h'.push (seqObj "list" vs.toArray 0)) h'.objs.size vs, toks := tk }) (each_map (R := fun v d => ∃ as, Reads (sortingHeap (h'.push (seqObj "list" vs.toArray 0)) h'.objs.size vs) v d as) enc er) hal hk fun d hd => by obtain ⟨b, hb, rfl⟩ := List.mem_map.mp hd; have := hu b hb; show A.units + 1 + 1 + _ < _; omega) (by rw [hlen]; exact hL) ⟨_, rfl, ?_⟩)
    (args_list_sort _)))
  obtain ⟨c, hc'⟩ := PyProof.Rows.sortedHeap_at (vs := vs) (out := (sortVals (dataKind (sortingHeap (h'.push (seqObj "list" vs.toArray 0)) h'.objs.size vs) (bs.map enc)) false vs vs).toArray) hoL
  refine wpAny_pure ⟨_, rfl, h h'.objs.size h' _ tk _ c hkeep (Nat.le_refl _) (fun b o e1 => ?_) hc' ?_⟩
  · have hb : b < h'.objs.size := Heap.lt_size e1
    rw [PyProof.Rows.sortedHeap_old (Nat.ne_of_lt hb) (by rw [size_push']; exact Nat.lt_succ_of_lt hb)]
    exact Heap.get?_push_of_some _ e1
  · exact sortVals_data false (he.mono fun v d q => q.1) er hal
end
end PySem.W

set_option Elab.async false
set_option linter.all false
set_option maxRecDepth 100000
set_option maxHeartbeats 1000000
namespace PW
open PySem PySem.Spec PyProof.Rows L2

/-! ### calls of what is built in -/
def CallV (X : Cx) (r : List V → Hp → VK → Prop) (w : List D → W D) : Prop := ∀ {z : Z} {H : Hp} {vs : List V} {ds : List D} {Q : VK}, Fct X.K H → ZOk X.K z H → RBs X.K X.mg z H vs ds → (w ds).run (kV X.K X.mg z H Q) → r vs H (fun v H' => Fct X.K H' → Q v H')
def CallF (X : Cx) (r : List V → Hp → VK → Prop) (w : List D → W D) : Prop := ∀ {z : Z} {H : Hp} {vs : List V} {ds : List D} {Q : VK}, Fct X.K H → ZOk X.K z H → RBs X.K X.mg z H vs ds → (w ds).run (kF X.K X.mg z H Q) → r vs H (fun v H' => Fct X.K H' → Q v H')
def CallE (M : Mo) (S : Fix) (f : Value) (w : List D → W D) : Prop := ∀ X, Good M S X → ∃ r, CallR X f r ∧ CallV X r w
def CallFE (M : Mo) (S : Fix) (f : Value) (w : List D → W D) : Prop := ∀ X, Good M S X → ∃ r, CallR X f r ∧ CallF X r w
theorem kF.step {K : PySem.W.Frag} {mg : Str → Option Value} {z z2 : Z} {H H2 : Hp} {Q : VK} {d : D} (st : Step K z H z2 H2) (k : kF K mg z H Q d) : kF K mg z2 H2 Q d := fun a o z' H' s2 fc hn => k a o z' H' (st.trans s2) fc (st.was hn)
section
variable {M : Mo} {S : Fix} {e : Expr} {es : List Expr} {fs : Env → W (List D)} {w : List D → W D} {id : String} {x : Str} {p pos : Pos}
theorem v_callB (hc : CallE M S (.builtin id) w) (ha : EvAB M S (e :: es) fs) (hf : decide (x ∈ M.free) = true := by kernel_rfl) (hv : bootBuiltins x = some (.builtin id) := by kernel_rfl) (hg : S.sc.names.lookup x = some .globalImplicit := by kernel_rfl)
    (hn : decide (x ≠ "__name__") = true := by kernel_rfl) (hd : (x == ("__debug__" : Str)) = false := by kernel_rfl) (he : ∀ env, starEach (e :: es) env = (false, eval e env) :: starEach es env := by intro _; kernel_rfl) (hpl : ∀ env, (backTo pos (starEach es env)).any (·.1) = false := by intro _; kernel_rfl) :
    EvV M S (.Call (.Name x p) (e :: es) [] pos) fun ρ => (fs ρ).bind w := fun X G => by
  obtain ⟨r, hr, hw⟩ := hc X G
  refine (pe_callB hr (gl_of G hg) (G.free _ (of_decide_eq_true hf)) hv (ha X G) (of_decide_eq_true hn) hd (he _) (hpl _)).impW fun σ H Q fc ⟨z0, H0, z, ρ, E, h⟩ => ⟨z0, H0, z, ρ, E, (fs ρ).mono (fun ds k vs z1 H1 st1 fc1 r1 => ?_) h⟩
  exact hw fc1 st1.ok r1 ((w ds).mono (fun d k => k.step st1) k)
theorem v_callT (hc : CallE M S (.type id) w) (ha : EvAB M S (e :: es) fs) (hf : decide (x ∈ M.free) = true := by kernel_rfl) (hv : bootBuiltins x = some (.type id) := by kernel_rfl) (hg : S.sc.names.lookup x = some .globalImplicit := by kernel_rfl)
    (hn : decide (x ≠ "__name__") = true := by kernel_rfl) (hd : (x == ("__debug__" : Str)) = false := by kernel_rfl) (he : ∀ env, starEach (e :: es) env = (false, eval e env) :: starEach es env := by intro _; kernel_rfl) (hpl : ∀ env, (backTo pos (starEach es env)).any (·.1) = false := by intro _; kernel_rfl) :
    EvV M S (.Call (.Name x p) (e :: es) [] pos) fun ρ => (fs ρ).bind w := fun X G => by
  obtain ⟨r, hr, hw⟩ := hc X G
  refine (pe_callTy hr (gl_of G hg) (G.free _ (of_decide_eq_true hf)) hv (ha X G) (of_decide_eq_true hn) hd (he _) (hpl _)).impW fun σ H Q fc ⟨z0, H0, z, ρ, E, h⟩ => ⟨z0, H0, z, ρ, E, (fs ρ).mono (fun ds k vs z1 H1 st1 fc1 r1 => ?_) h⟩
  exact hw fc1 st1.ok r1 ((w ds).mono (fun d k => k.step st1) k)
theorem f_callB (hc : CallFE M S (.builtin id) w) (ha : EvAB M S (e :: es) fs) (hf : decide (x ∈ M.free) = true := by kernel_rfl) (hv : bootBuiltins x = some (.builtin id) := by kernel_rfl) (hg : S.sc.names.lookup x = some .globalImplicit := by kernel_rfl)
    (hn : decide (x ≠ "__name__") = true := by kernel_rfl) (hd : (x == ("__debug__" : Str)) = false := by kernel_rfl) (he : ∀ env, starEach (e :: es) env = (false, eval e env) :: starEach es env := by intro _; kernel_rfl) (hpl : ∀ env, (backTo pos (starEach es env)).any (·.1) = false := by intro _; kernel_rfl) :
    EvF M S (.Call (.Name x p) (e :: es) [] pos) fun ρ => (fs ρ).bind w := fun X G => by
  obtain ⟨r, hr, hw⟩ := hc X G
  refine (pe_callB hr (gl_of G hg) (G.free _ (of_decide_eq_true hf)) hv (ha X G) (of_decide_eq_true hn) hd (he _) (hpl _)).impW fun σ H Q fc ⟨z0, H0, z, ρ, E, h⟩ => ⟨z0, H0, z, ρ, E, (fs ρ).mono (fun ds k vs z1 H1 st1 fc1 r1 => ?_) h⟩
  exact hw fc1 st1.ok r1 ((w ds).mono (fun d k => k.step st1) k)
theorem f_callT (hc : CallFE M S (.type id) w) (ha : EvAB M S (e :: es) fs) (hf : decide (x ∈ M.free) = true := by kernel_rfl) (hv : bootBuiltins x = some (.type id) := by kernel_rfl) (hg : S.sc.names.lookup x = some .globalImplicit := by kernel_rfl)
    (hn : decide (x ≠ "__name__") = true := by kernel_rfl) (hd : (x == ("__debug__" : Str)) = false := by kernel_rfl) (he : ∀ env, starEach (e :: es) env = (false, eval e env) :: starEach es env := by intro _; kernel_rfl) (hpl : ∀ env, (backTo pos (starEach es env)).any (·.1) = false := by intro _; kernel_rfl) :
    EvF M S (.Call (.Name x p) (e :: es) [] pos) fun ρ => (fs ρ).bind w := fun X G => by
  obtain ⟨r, hr, hw⟩ := hc X G
  refine (pe_callTy hr (gl_of G hg) (G.free _ (of_decide_eq_true hf)) hv (ha X G) (of_decide_eq_true hn) hd (he _) (hpl _)).impW fun σ H Q fc ⟨z0, H0, z, ρ, E, h⟩ => ⟨z0, H0, z, ρ, E, (fs ρ).mono (fun ds k vs z1 H1 st1 fc1 r1 => ?_) h⟩
  exact hw fc1 st1.ok r1 ((w ds).mono (fun d k => k.step st1) k)

/-! ### len, abs, min, max, sum, any, all, int, isinstance -/
def D.len : List D → W D
  | [.lst xs] => W.pure (.int xs.length)
  | [.tup xs] => W.pure (.int xs.length)
  | [.dK xs] => W.pure (.int xs.length)
  | [.dT xs] => W.pure (.int xs.length)
  | [.str x] => (W.need (x.length ≤ sizeLine)).bind fun _ => W.pure (.int x.length)
  | _ => W.fail
theorem RpK.length {K : PySem.W.Frag} {mg : Str → Option Value} {z : Z} : ∀ {v : List (Key × V)} {d : List (Key × D)}, RpK K mg z v d → v.length = d.length
  | _, _, .nil => rfl
  | _, _, .cons _ r => by rw [List.length_cons, List.length_cons, RpK.length r]
theorem RpT.length {K : PySem.W.Frag} {mg : Str → Option Value} {z : Z} : ∀ {v : List (List Key × V)} {d : List (List Key × D)}, RpT K mg z v d → v.length = d.length
  | _, _, .nil => rfl
  | _, _, .cons _ r => by rw [List.length_cons, List.length_cons, RpT.length r]
theorem c_len : CallE M S (.builtin "len") D.len := fun X G => by
  refine ⟨_, (call_len_seq.or call_len_str).or (call_lenD.or call_len_dT), fun {z H vs ds Q} fc ok rs h => ?_⟩
  unfold D.len at h
  split at h
  · obtain ⟨v, rfl, r⟩ := rs.one
    obtain ⟨a, vs, rfl, q, r⟩ := r.lst ok
    exact .inl (.inl ⟨a, vs, rfl, .inl (.of q), fun _ => by rw [r.length]; exact h.now ok fc (.int _)⟩)
  · obtain ⟨v, rfl, r⟩ := rs.one
    obtain ⟨a, vs, rfl, q, r⟩ := r.tup ok
    exact .inl (.inl ⟨a, vs, rfl, .inr (.of q), fun _ => by rw [r.length]; exact h.now ok fc (.int _)⟩)
  · obtain ⟨v, rfl, r⟩ := rs.one
    obtain ⟨a, kvs, rfl, q, r⟩ := r.dK ok
    exact .inr (.inl ⟨a, kvs, rfl, q, fun _ => by rw [r.length]; exact h.now ok fc (.int _)⟩)
  · obtain ⟨v, rfl, r⟩ := rs.one
    obtain ⟨a, kvs, rfl, q, r⟩ := r.dT ok
    exact .inr (.inr ⟨a, kvs, rfl, q, fun _ => by rw [r.length]; exact h.now ok fc (.int _)⟩)
  · obtain ⟨v, rfl, r⟩ := rs.one
    rw [r.str]
    exact .inl (.inr ⟨_, rfl, h.1, fun _ => h.2.now ok fc (.int _)⟩)
  · exact (show False from h).elim
def D.abs : List D → W D
  | [.int i] => W.pure (.int (if i < 0 then -i else i))
  | _ => W.fail
theorem c_abs : CallE M S (.builtin "abs") D.abs := fun X G => by
  refine ⟨_, call_abs, fun {z H vs ds Q} fc ok rs h => ?_⟩
  unfold D.abs at h
  split at h
  · obtain ⟨v, rfl, r⟩ := rs.one
    exact ⟨_, by rw [r.int], fun _ => h.now ok fc (.int _)⟩
  · exact (show False from h).elim
def D.int1 : List D → W D
  | [.int i] => W.pure (.int i)
  | [.bl b] => W.pure (.int (if b then 1 else 0))
  | _ => W.fail
theorem c_int : CallE M S (.type "int") D.int1 := fun X G => by
  refine ⟨_, call_int1, fun {z H vs ds Q} fc ok rs h => ?_⟩
  unfold D.int1 at h
  split at h
  · obtain ⟨v, rfl, r⟩ := rs.one
    exact .inl ⟨_, by rw [r.int], fun _ => h.now ok fc (.int _)⟩
  · obtain ⟨v, rfl, r⟩ := rs.one
    exact .inr ⟨_, by rw [r.bl], fun _ => h.now ok fc (.int _)⟩
  · exact (show False from h).elim
/-- range(j), range(i, j) as a value -/
def D.range : List D → W D
  | [.int j] => W.pure (.rng 0 j)
  | [.int i, .int j] => W.pure (.rng i j)
  | _ => W.fail
theorem call_range1 {X : Cx} : CallR X (.type "range") (fun vs H Q => ∃ j, vs = [V.int j] ∧ ∀ p, H p = none → Q (.ref p) (upd H p (.rng 0 j))) := by
  intro pins s σ H vs us Q I r h
  obtain ⟨j, rfl, q⟩ := h
  obtain ⟨u, rfl, t, rfl⟩ := vals1 r
  refine call_range_1 ⟨.ref s.heap.objs.size, upd H s.heap.objs.size (.rng 0 j), I.laid (t' := s.toks + 2) (fun b o e => Heap.get?_push_of_some _ e) (Nat.le_refl _) ?_, rfl, q _ (I.hok.fresh (Nat.le_refl _))⟩
  exact ⟨_, _, _, Heap.get?_push_size _ rfl⟩
theorem c_range : CallE M S (.type "range") D.range := fun X G => by
  refine ⟨_, call_range1.or cr_range2, fun {z H vs ds Q} fc ok rs h => ?_⟩
  unfold D.range at h
  split at h
  · obtain ⟨v, rfl, r⟩ := rs.one
    exact .inl ⟨_, by rw [r.int], fun p hp fc2 => kV_new h (Step.refl ok) fc2 hp (.rng Z.put_at)⟩
  · obtain ⟨v, u, rfl, r, r'⟩ := rs.two
    exact .inr ⟨_, _, by rw [r.int, r'.int], fun p hp fc2 => kV_new h (Step.refl ok) fc2 hp (.rng Z.put_at)⟩
  · exact (show False from h).elim
def D.ints : List D → Option (List Int)
  | [] => some []
  | .int i :: ds => (D.ints ds).map (i :: ·)
  | _ => none
theorem ints_eq {K : PySem.W.Frag} {mg : Str → Option Value} {z : Z} : ∀ {ds : List D} {vs : List V} {ns : List Int}, RpL K mg z vs ds → D.ints ds = some ns → vs = ns.map V.int
  | [], _, _, r, e => by cases r; cases e; rfl
  | .int i :: ds, _, _, r, e => by
    cases r with
    | cons r1 r2 =>
      cases r1
      cases q : D.ints ds with
      | none => rw [D.ints, q] at e; cases e
      | some ns => rw [D.ints, q] at e; cases e; rw [ints_eq r2 q]; rfl
  | .non :: _, _, _, _, e => by cases e
  | .bl _ :: _, _, _, _, e => by cases e
  | .str _ :: _, _, _, _, e => by cases e
  | .ty _ :: _, _, _, _, e => by cases e
  | .tup _ :: _, _, _, _, e => by cases e
  | .lst _ :: _, _, _, _, e => by cases e
  | .dK _ :: _, _, _, _, e => by cases e
  | .dT _ :: _, _, _, _, e => by cases e
  | .rng _ _ :: _, _, _, _, e => by cases e
  | .fn _ :: _, _, _, _, e => by cases e
  | .bag :: _, _, _, _, e => by cases e
  | .scr :: _, _, _, _, e => by cases e
theorem some_run {α : Type} {o : Option α} {Q : α → Prop} (h : (W.some? o).run Q) : ∃ a, o = some a ∧ Q a := by
  cases o with
  | none => exact (show False from h).elim
  | some a => exact ⟨a, rfl, h⟩
def D.sum : List D → W D
  | [.lst xs] => (W.some? (D.ints xs)).bind fun ns => W.pure (.int ns.sum)
  | [.tup xs] => (W.some? (D.ints xs)).bind fun ns => W.pure (.int ns.sum)
  | _ => W.fail
theorem cr_sumT {X : Cx} (hc : X.calm = true) : CallR X (.builtin "sum") (fun vs H Q => ∃ (a : Addr) (ns : List Int), vs = [V.ref a] ∧ SqT X.K H a (ns.map V.int) ∧ Q (.int ns.sum) H) := by
  intro pins s σ H vs us Q I r h
  obtain ⟨a, ns, rfl, hs, q⟩ := h
  obtain ⟨its, rv, hl, _⟩ := I.tuple hs
  rw [Vals.ref1 r]
  have hi := rv.ints
  obtain ⟨xs, e⟩ := hi.allInts.items
  have hn : numsOf (intItems xs).toList = ns := by rw [← e]; exact hi.numsOf
  rw [nums_intItems] at hn
  have hl : s.heap.IsTuple a its.toArray := hl
  rw [e] at hl
  refine PySem.W.ktm_sumG (I.ok.hd hc) hl fun h' tk t' hk => ?_
  rw [preSum_eq, List.take_of_length_le (by simp), hn]
  exact ⟨.int _, H, I.kept hk, ⟨_, rfl⟩, q⟩
theorem c_sum : CallE M S (.builtin "sum") D.sum := fun X G => by
  refine ⟨_, (cr_sum G.calm).or (cr_sumT G.calm), fun {z H vs ds Q} fc ok rs h => ?_⟩
  unfold D.sum at h
  split at h
  · obtain ⟨v, rfl, r⟩ := rs.one
    obtain ⟨a, vs, rfl, q, r⟩ := r.lst ok
    obtain ⟨ns, e, h⟩ := some_run h
    exact .inl ⟨a, ns, rfl, .of (by rw [← ints_eq r e]; exact q), fun _ => h.now ok fc (.int _)⟩
  · obtain ⟨v, rfl, r⟩ := rs.one
    obtain ⟨a, vs, rfl, q, r⟩ := r.tup ok
    obtain ⟨ns, e, h⟩ := some_run h
    exact .inr ⟨a, ns, rfl, .of (by rw [← ints_eq r e]; exact q), fun _ => h.now ok fc (.int _)⟩
  · exact (show False from h).elim
def D.bls : List D → Option (List Bool)
  | [] => some []
  | .bl i :: ds => (D.bls ds).map (i :: ·)
  | _ => none
theorem bls_eq {K : PySem.W.Frag} {mg : Str → Option Value} {z : Z} : ∀ {ds : List D} {vs : List V} {ns : List Bool}, RpL K mg z vs ds → D.bls ds = some ns → vs = ns.map V.bl
  | [], _, _, r, e => by cases r; cases e; rfl
  | .bl i :: ds, _, _, r, e => by
    cases r with
    | cons r1 r2 =>
      cases r1
      cases q : D.bls ds with
      | none => rw [D.bls, q] at e; cases e
      | some ns => rw [D.bls, q] at e; cases e; rw [bls_eq r2 q]; rfl
  | .non :: _, _, _, _, e => by cases e
  | .int _ :: _, _, _, _, e => by cases e
  | .str _ :: _, _, _, _, e => by cases e
  | .ty _ :: _, _, _, _, e => by cases e
  | .tup _ :: _, _, _, _, e => by cases e
  | .lst _ :: _, _, _, _, e => by cases e
  | .dK _ :: _, _, _, _, e => by cases e
  | .dT _ :: _, _, _, _, e => by cases e
  | .rng _ _ :: _, _, _, _, e => by cases e
  | .fn _ :: _, _, _, _, e => by cases e
  | .bag :: _, _, _, _, e => by cases e
  | .scr :: _, _, _, _, e => by cases e
def D.any : List D → W D
  | [.lst xs] => (W.some? (D.bls xs)).bind fun ns => W.pure (.bl (ns.any _root_.id))
  | _ => W.fail
def D.all : List D → W D
  | [.lst xs] => (W.some? (D.bls xs)).bind fun ns => W.pure (.bl (ns.all _root_.id))
  | _ => W.fail
theorem c_any : CallE M S (.builtin "any") D.any := fun X G => by
  refine ⟨_, cr_any G.calm, fun {z H vs ds Q} fc ok rs h => ?_⟩
  unfold D.any at h
  split at h
  · obtain ⟨v, rfl, r⟩ := rs.one
    obtain ⟨a, vs, rfl, q, r⟩ := r.lst ok
    obtain ⟨ns, e, h⟩ := some_run h
    exact ⟨a, ns, rfl, .of (by rw [← bls_eq r e]; exact q), fun _ => h.now ok fc (.bl _)⟩
  · exact (show False from h).elim
theorem c_all : CallE M S (.builtin "all") D.all := fun X G => by
  refine ⟨_, cr_all G.calm, fun {z H vs ds Q} fc ok rs h => ?_⟩
  unfold D.all at h
  split at h
  · obtain ⟨v, rfl, r⟩ := rs.one
    obtain ⟨a, vs, rfl, q, r⟩ := r.lst ok
    obtain ⟨ns, e, h⟩ := some_run h
    exact ⟨a, ns, rfl, .of (by rw [← bls_eq r e]; exact q), fun _ => h.now ok fc (.bl _)⟩
  · exact (show False from h).elim

/-! isinstance -/
def D.tyn : D → Option String
  | .non => some "NoneType"
  | .bl _ => some "bool"
  | .int _ => some "int"
  | .str _ => some "str"
  | .tup _ => some "tuple"
  | .lst _ => some "list"
  | .dK _ => some "dict"
  | .dT _ => some "dict"
  | _ => none
def tyNames : List String := ["NoneType", "bool", "int", "str", "tuple", "list", "dict"]
def isaB (a b : String) : Option Bool := if tyNames.contains a && tyNames.contains b then some (a == b || (a == "bool" && b == "int")) else none
theorem isaB_all : (tyNames.all fun a => tyNames.all fun b => kitB a b == some (a == b || (a == "bool" && b == "int"))) = true := by decide +kernel
theorem isaB_kit {a b : String} {r : Bool} (h : isaB a b = some r) : kitB a b = some r := by
  unfold isaB at h
  by_cases c : (tyNames.contains a && tyNames.contains b) = true
  · rw [if_pos c] at h
    rw [Bool.and_eq_true] at c
    have e := List.all_eq_true.mp (List.all_eq_true.mp isaB_all a (List.contains_iff_mem.mp c.1)) b (List.contains_iff_mem.mp c.2)
    rw [← h]
    exact eq_of_beq e
  · rw [if_neg c] at h
    cases h
theorem RB.tyX {K : PySem.W.Frag} {mg : Str → Option Value} {z : Z} {H : Hp} {v : V} {d : D} {n : String} (ok : ZOk K z H) (r : RB K mg z H v d) (e : d.tyn = some n) : TyX K H v (.type n) := by
  cases d with
  | non => cases e; rw [r.non]; exact .base .non
  | bl b => cases e; rw [r.bl]; exact .base (.bl _)
  | int b => cases e; rw [r.int]; exact .base (.int _)
  | str b => cases e; rw [r.str]; exact .base (.str _)
  | tup b => cases e; obtain ⟨a, vs, rfl, q, _⟩ := r.tup ok; exact .base (.tup q)
  | lst b => cases e; obtain ⟨a, vs, rfl, q, _⟩ := r.lst ok; exact .base (.lst q)
  | dK b => cases e; obtain ⟨a, kvs, rfl, q, _⟩ := r.dK ok; exact .base (.dK q)
  | dT b => cases e; obtain ⟨a, kvs, rfl, q, _⟩ := r.dT ok; exact .base (.dT q)
  | _ => cases e
def isaAny (a : String) : List D → Option Bool
  | [] => some false
  | .ty b :: ds => match isaB a b, isaAny a ds with
    | some r, some r' => some (r || r')
    | _, _ => none
  | _ => none
def D.isi : List D → W D
  | [d, .ty b] => (W.some? d.tyn).bind fun a => (W.some? (isaB a b)).bind fun r => W.pure (.bl r)
  | [d, .tup ts] => (W.some? d.tyn).bind fun a => (W.some? (isaAny a ts)).bind fun r => W.pure (.bl r)
  | _ => W.fail
theorem isaAny_kit {K : PySem.W.Frag} {mg : Str → Option Value} {z : Z} {a : String} : ∀ {ts : List D} {vs : List V} {r : Bool}, RpL K mg z vs ts → isaAny a ts = some r → ∃ us, Paired ClsV vs us ∧ (PySem.W.kitAny K (.type a) us = some r)
  | [], _, _, h, e => by cases h; cases e; exact ⟨[], .nil, kitAny_nil⟩
  | .ty b :: ts, _, r, h, e => by
    cases h with
    | cons h1 h2 =>
      cases h1
      unfold isaAny at e
      cases q : isaB a b with
      | none => rw [q] at e; cases e
      | some c =>
        cases q2 : isaAny a ts with
        | none => rw [q, q2] at e; cases e
        | some c2 =>
          rw [q, q2] at e
          cases e
          obtain ⟨us, h3, h4⟩ := isaAny_kit h2 q2
          refine ⟨_, .cons (.ty b) h3, kitAny_cons (kit_ty (isaB_kit q)) (fun x => ?_) fun x => ?_⟩
          · rw [x, Bool.false_or]; exact h4
          · rw [x, Bool.true_or]
  | .non :: _, _, _, _, e => by cases e
  | .int _ :: _, _, _, _, e => by cases e
  | .str _ :: _, _, _, _, e => by cases e
  | .bl _ :: _, _, _, _, e => by cases e
  | .tup _ :: _, _, _, _, e => by cases e
  | .lst _ :: _, _, _, _, e => by cases e
  | .dK _ :: _, _, _, _, e => by cases e
  | .dT _ :: _, _, _, _, e => by cases e
  | .rng _ _ :: _, _, _, _, e => by cases e
  | .fn _ :: _, _, _, _, e => by cases e
  | .bag :: _, _, _, _, e => by cases e
  | .scr :: _, _, _, _, e => by cases e
theorem c_isi : CallE M S (.builtin "isinstance") D.isi := fun X G => by
  refine ⟨_, call_isi.or call_isiT, fun {z H vs ds Q} fc ok rs h => ?_⟩
  unfold D.isi at h
  split at h
  · obtain ⟨v, u, rfl, r, r'⟩ := rs.two
    obtain ⟨a, e, h⟩ := some_run h
    obtain ⟨b, e2, h⟩ := some_run h
    exact .inl ⟨v, u, _, _, b, rfl, by rw [r'.ty]; exact .ty _, r.tyX ok e, kit_ty (isaB_kit e2), fun _ => h.now ok fc (.bl _)⟩
  · obtain ⟨v, u, rfl, r, r'⟩ := rs.two
    obtain ⟨a, e, h⟩ := some_run h
    obtain ⟨b, e2, h⟩ := some_run h
    obtain ⟨tp, ts, rfl, q, rt⟩ := r'.tup ok
    obtain ⟨us, h1, h2⟩ := isaAny_kit rt e2
    exact .inr ⟨v, tp, ts, _, us, b, rfl, q, h1, r.tyX ok e, h2, fun _ => h.now ok fc (.bl _)⟩
  · exact (show False from h).elim

/-! ### list(x), tuple(x), sorted(x) -/
/-- a tuple that stands is known from now on -/
theorem Step.freezeT {K : PySem.W.Frag} {z : Z} {H : Hp} {p : Addr} {vs : List V} (h : ZOk K z H) (ho : H p = some (.tup vs)) : ∃ z', Step K z H z' H ∧ z'.f p = some (.tup vs) := by
  cases q : z.f p with
  | some o =>
    have e := h.sub _ _ q
    rw [ho] at e
    exact ⟨z, Step.refl h, by rw [q, e]⟩
  | none =>
    have hβ : ¬ z.β p := fun e => by
      obtain ⟨_, _, _, _, _, _, q, _⟩ := h.bag p e
      rw [ho] at q
      cases q
    refine ⟨z.put p (.tup vs), ⟨Z.le_put q, h.freeze q hβ ho, fun _ _ _ h => h, fun b o h1 h2 h3 => ?_, fun _ h => .inl h⟩, Z.put_at⟩
    show upd z.f p _ b = none
    rw [upd_ne (fun e => by rw [e, ho] at h2; cases h2; exact h3)]
    exact h1
theorem rp_key {K : PySem.W.Frag} {mg : Str → Option Value} {z : Z} (k : Key) : Rp K mg z (L2.kV k) (keyD k) := by
  cases k with
  | inl i => exact .int i
  | inr x => exact .str x
theorem rpL_keys {K : PySem.W.Frag} {mg : Str → Option Value} {z : Z} : ∀ ks : List Key, RpL K mg z (ks.map L2.kV) (ks.map keyD)
  | [] => .nil
  | k :: ks => .cons (rp_key k) (rpL_keys ks)
theorem freeze_keys {K : PySem.W.Frag} {mg : Str → Option Value} {H : Hp} : ∀ {kvs : List (List Key × V)} {bs : List Addr} {z : Z}, ZOk K z H → IsKeys H kvs bs → ∃ z', Step K z H z' H ∧ RpL K mg z' (bs.map V.ref) (kvs.map fun kv => .tup (kv.1.map keyD))
  | _, _, z, ok, .nil => ⟨z, Step.refl ok, .nil⟩
  | _, _, z, ok, .cons h t => by
    obtain ⟨z1, s1, e1⟩ := Step.freezeT ok h
    obtain ⟨z2, s2, r2⟩ := freeze_keys (mg := mg) s1.ok t
    exact ⟨z2, s1.trans s2, .cons (.tup (s2.le.f _ _ e1) (rpL_keys _)) r2⟩
/-- the keys of a dict -/
theorem RpK.keys {K : PySem.W.Frag} {mg : Str → Option Value} {z : Z} : ∀ {v : List (Key × V)} {d : List (Key × D)}, RpK K mg z v d → (d.map fun kv => keyD kv.1) = v.map fun kv => keyD kv.1
  | _, _, .nil => rfl
  | _, _, .cons _ r => by rw [List.map_cons, List.map_cons, RpK.keys r]
theorem RpT.keys {K : PySem.W.Frag} {mg : Str → Option Value} {z : Z} : ∀ {v : List (List Key × V)} {d : List (List Key × D)}, RpT K mg z v d → (d.map fun kv => D.tup (kv.1.map keyD)) = v.map fun kv => D.tup (kv.1.map keyD)
  | _, _, .nil => rfl
  | _, _, .cons _ r => by rw [List.map_cons, List.map_cons, RpT.keys r]
/-- what x gives, walked -/
def D.walk : D → W (List D)
  | .tup xs => W.pure xs
  | .lst xs => W.pure xs
  | .dK kvs => W.pure (kvs.map fun kv => keyD kv.1)
  | .dT kvs => W.pure (kvs.map fun kv => .tup (kv.1.map keyD))
  | .rng lo hi => (W.need (RgOk lo hi)).bind fun _ => W.pure (rngD lo hi)
  | _ => W.fail
theorem rngD_rp {K : PySem.W.Frag} {mg : Str → Option Value} {z : Z} (lo hi : Int) : RpL K mg z (rgV lo hi) (rngD lo hi) := by
  unfold rgV rngD
  generalize List.range (hi - lo).toNat = l
  induction l with
  | nil => exact .nil
  | cons n l ih => exact .cons (.int _) ih
inductive Src (K : PySem.W.Frag) (mg : Str → Option Value) (z : Z) (H : Hp) (a : Addr) : List D → Prop
  | seq {xs : List V} {ds : List D} : (SqL K H a xs ∨ SqT K H a xs) → RpL K mg z xs ds → Src K mg z H a ds
  | dK {kvs : List (Key × V)} {ds : List D} : H a = some (.dK kvs) → ds = (kvs.map fun kv => keyD kv.1) → Src K mg z H a ds
  | dT {kvs : List (List Key × V)} {ds : List D} : H a = some (.dT kvs) → ds = (kvs.map fun kv => .tup (kv.1.map keyD)) → Src K mg z H a ds
  | rng {lo hi : Int} {ds : List D} : H a = some (.rng lo hi) → RgOk lo hi → ds = rngD lo hi → Src K mg z H a ds
theorem src_run {K : PySem.W.Frag} {mg : Str → Option Value} {z : Z} {H : Hp} {v : V} {d : D} {Q : List D → Prop} (ok : ZOk K z H) (r : RB K mg z H v d) (h : d.walk.run Q) : ∃ a ds, v = .ref a ∧ Src K mg z H a ds ∧ Q ds := by
  cases d with
  | tup ds =>
    obtain ⟨a, vs, rfl, q, r⟩ := r.tup ok
    exact ⟨a, ds, rfl, .seq (.inr (.of q)) r, h⟩
  | lst ds =>
    obtain ⟨a, vs, rfl, q, r⟩ := r.lst ok
    exact ⟨a, ds, rfl, .seq (.inl (.of q)) r, h⟩
  | dK ds =>
    obtain ⟨a, kvs, rfl, q, r⟩ := r.dK ok
    exact ⟨a, _, rfl, .dK q r.keys, h⟩
  | dT ds =>
    obtain ⟨a, kvs, rfl, q, r⟩ := r.dT ok
    exact ⟨a, _, rfl, .dT q r.keys, h⟩
  | rng lo hi =>
    obtain ⟨a, rfl, q⟩ := r.rng ok
    exact ⟨a, _, rfl, .rng q h.1 rfl, h.2⟩
  | _ => exact (show False from h).elim
/-- list(x): a new list -/
def rListX (K : PySem.W.Frag) (mg : Str → Option Value) : List V → Hp → VK → Prop := fun vs H Q => ∃ z a ds, ZOk K z H ∧ vs = [V.ref a] ∧ Src K mg z H a ds ∧ ∀ z' ys p, Step K z H z' H → RpL K mg z' ys ds → H p = none → Q (.ref p) (upd H p (.lst ys))
def rTupleX (K : PySem.W.Frag) (mg : Str → Option Value) : List V → Hp → VK → Prop := fun vs H Q => ∃ z a ds, ZOk K z H ∧ vs = [V.ref a] ∧ Src K mg z H a ds ∧ (∀ xs, SqT K H a xs → RpL K mg z xs ds → Q (.ref a) H) ∧ ∀ z' ys p, Step K z H z' H → RpL K mg z' ys ds → H p = none → Q (.ref p) (upd H p (.tup ys))
theorem cr_listX {X : Cx} (hc : X.calm = true) : CallR X (.type "list") (rListX X.K X.mg) := by
  intro pins s σ H vs us Q I r ⟨z, a, ds, ok, e, src, k⟩
  cases src with
  | seq hs rl => exact call_list_of pins s σ H vs us Q I r ⟨a, _, e, hs, fun l hl => k z _ l (Step.refl ok) rl hl⟩
  | @dK kvs ds q e2 =>
    refine call_list_dK hc pins s σ H vs us Q I r ⟨a, _, e, q, fun l hl => k z _ l (Step.refl ok) ?_ hl⟩
    rw [e2]
    have e3 := rpL_keys (K := X.K) (mg := X.mg) (z := z) (List.map (fun kv => kv.1) kvs)
    rw [List.map_map, List.map_map] at e3
    exact e3
  | dT q e2 =>
    refine call_list_dT hc pins s σ H vs us Q I r ⟨a, _, e, .inl q, fun l bs hl hk => ?_⟩
    obtain ⟨z', s', r'⟩ := freeze_keys (mg := X.mg) ok hk
    exact k z' _ l s' (by rw [e2]; exact r') hl
  | rng q ro e2 =>
    subst e
    rw [Vals.ref1 r]
    obtain ⟨b1, b2, b3, b4, b5⟩ := ro
    obtain ⟨t, u, v, hr⟩ := (show ObjOk X.prog X.w H s.heap a (.rng _ _) from I.hok a _ q)
    refine call_list_range (I.ok.hd hc) hr (small_one b1 b2 b3 b4) (rangeSize_nat _ _) b5 fun h' tk acc c' hk e' hi => ?_
    refine ⟨.ref s.heap.objs.size, _, I.laid hk (Nat.le_refl _) (show ObjOk X.prog X.w _ _ _ (.lst (rgV _ _)) from ⟨?_, acc.toList, c', vals_rg hi, ?_⟩), rfl, k z _ _ (Step.refl ok) (by rw [e2]; exact rngD_rp _ _) (I.hok.fresh (Nat.le_refl _))⟩
    · rw [rgV_length, sizeLine_eq]; omega
    · rw [Array.toArray_toList]; exact e'
theorem cr_tupleX {X : Cx} (hc : X.calm = true) : CallR X (.type "tuple") (fun vs H Q => ∃ z a ds, ZOk X.K z H ∧ vs = [V.ref a] ∧ ((∃ xs, SqL X.K H a xs ∧ RpL X.K X.mg z xs ds) ∨ ∃ lo hi, H a = some (.rng lo hi) ∧ RgOk lo hi ∧ ds = rngD lo hi) ∧
    ∀ ys p, RpL X.K X.mg z ys ds → H p = none → Q (.ref p) (upd H p (.tup ys))) := by
  intro pins s σ H vs us Q I r ⟨z, a, ds, ok, e, src, k⟩
  rcases src with ⟨xs, hs, rl⟩ | ⟨lo, hi, q, ro, e2⟩
  · exact call_tuple_of pins s σ H vs us Q I r ⟨a, _, e, .inl ⟨hs, fun l hl => k _ l rl hl⟩⟩
  · subst e
    rw [Vals.ref1 r]
    obtain ⟨b1, b2, b3, b4, b5⟩ := ro
    obtain ⟨t, u, v, hr⟩ := (show ObjOk X.prog X.w H s.heap a (.rng lo hi) from I.hok a _ q)
    refine call_tuple_range (I.ok.hd hc) hr (small_one b1 b2 b3 b4) (rangeSize_nat _ _) b5 fun h' tk acc hk hi => ?_
    have I2 : Inv X pins σ H { s with heap := h', toks := tk } := I.kept hk
    refine ⟨.ref h'.objs.size, _, I2.laid (t' := tk) (fun c o e => Heap.get?_push_of_some _ e) (Nat.le_refl _) (show ObjOk X.prog X.w _ _ _ (.tup (rgV _ _)) from ⟨?_, acc.toList, vals_rg hi, ?_⟩), rfl, k _ _ (by rw [e2]; exact rngD_rp _ _) (I2.hok.fresh (Nat.le_refl _))⟩
    · rw [rgV_length, sizeLine_eq]; omega
    · rw [Array.toArray_toList]; exact IsTup.new _ _
def D.list : List D → W D
  | [d] => d.walk.bind fun ds => W.pure (.lst ds)
  | _ => W.fail
theorem kF_new {K : PySem.W.Frag} {mg : Str → Option Value} {z z' : Z} {H H' : Hp} {Q : VK} {d : D} {p : Addr} {o : HO} (k : kF K mg z H Q d) (st : Step K z H z' H') (fc : Fct K (upd H' p o)) (hp : H' p = none) (r : Cont K mg z' o d) : Q (.ref p) (upd H' p o) :=
  k p o z' (upd H' p o) (st.trans (Step.fresh st.ok hp)) fc (st.was hp) (st.ok.free hp) (st.ok.nβ hp) upd_same r
theorem one_run {ds : List D} {f : D → W D} {Q : D → Prop} {w : List D → W D} (hw : ∀ ds, w ds = match ds with
    | [d] => f d
    | _ => W.fail) (h : (w ds).run Q) : ∃ d, ds = [d] ∧ (f d).run Q := by
  rw [hw] at h
  split at h
  · exact ⟨_, rfl, h⟩
  · exact (show False from h).elim
theorem c_list : CallFE M S (.type "list") D.list := fun X G => by
  refine ⟨_, cr_listX G.calm, fun {z H vs ds Q} fc ok rs h => ?_⟩
  obtain ⟨d, rfl, h⟩ := one_run (fun ds => by cases ds with
    | nil => rfl
    | cons d t => cases t <;> rfl) h
  obtain ⟨v, rfl, r⟩ := rs.one
  obtain ⟨a, ds, rfl, src, h⟩ := src_run ok r h
  exact ⟨z, a, ds, ok, rfl, src, fun z' ys p st r hp fc2 => kF_new h st fc2 hp (.lst r)⟩
def D.tuple : List D → W D
  | [.tup xs] => W.pure (.tup xs)
  | [.lst xs] => W.pure (.tup xs)
  | [.rng lo hi] => (W.need (RgOk lo hi)).bind fun _ => W.pure (.tup (rngD lo hi))
  | _ => W.fail
theorem c_tuple : CallE M S (.type "tuple") D.tuple := fun X G => by
  refine ⟨_, (call_tupleT (X := X)).or (cr_tupleX G.calm), fun {z H vs ds Q} fc ok rs h => ?_⟩
  unfold D.tuple at h
  split at h
  · obtain ⟨v, rfl, r⟩ := rs.one
    obtain ⟨a, vs, rfl, q, r'⟩ := r.tup ok
    refine .inl ⟨a, vs, rfl, .of q, fun _ => ?_⟩
    rcases r with r | ⟨_, _, _, _, _, c⟩
    · exact h.now ok fc r
    · cases c
  · obtain ⟨v, rfl, r⟩ := rs.one
    obtain ⟨a, vs, rfl, q, r⟩ := r.lst ok
    exact .inr ⟨z, a, _, ok, rfl, .inl ⟨vs, .of q, r⟩, fun ys p r hp fc2 => kV_new h (Step.refl ok) fc2 hp (.tup Z.put_at (r.le (Z.le_put (ok.free hp))))⟩
  · obtain ⟨v, rfl, r⟩ := rs.one
    obtain ⟨a, rfl, q⟩ := r.rng ok
    exact .inr ⟨z, a, _, ok, rfl, .inr ⟨_, _, q, h.1, rfl⟩, fun ys p r hp fc2 => kV_new h.2 (Step.refl ok) fc2 hp (.tup Z.put_at (r.le (Z.le_put (ok.free hp))))⟩
  · exact (show False from h).elim

/-! sorted -/
def pyD (d : D) : PyData := d.py.getD .none
def sortL (ds : List D) : List D := ds.mergeSort (PySem.W.dataLe false pyD)
structure SortOk (ds : List D) : Prop where
  py : ∀ d ∈ ds, d.py = some (pyD d)
  alike : PySem.W.AllAlike (ds.map pyD)
  kind : PySem.W.PwSortable (ds.map pyD)
  depth : ∀ d ∈ ds, (pyD d).depth ≤ 100
def D.sorted : List D → W D
  | [d] => d.walk.bind fun ds => (W.need (SortOk ds ∧ ds.length ≤ sizeLine)).bind fun _ => W.pure (.lst (sortL ds))
  | _ => W.fail
def rSortX (K : PySem.W.Frag) (mg : Str → Option Value) : List V → Hp → VK → Prop := fun vs H Q => ∃ z a ds, ZOk K z H ∧ vs = [V.ref a] ∧ Src K mg z H a ds ∧ SortOk ds ∧ ds.length ≤ sizeLine ∧ ∀ z' ys p, Step K z H z' H → RpL K mg z' ys (sortL ds) → H p = none → Q (.ref p) (upd H p (.lst ys))
theorem each_rp {X : Cx} {pins : List (Addr × Obj)} {σ : Sg} {H : Hp} {s : Shared} {z : Z} {h' : Heap} (I : Inv X pins σ H s) (ok : ZOk X.K z H) (hk : ∀ b o, s.heap.get? b = some o → h'.get? b = some o) : ∀ {xs : List V} {us : List Value} {ds : List D}, Vals xs us → RpL X.K X.mg z xs ds → (∀ d ∈ ds, d.py = some (pyD d)) →
    PySem.W.EachIs (fun v d => (∃ x, RelV x v ∧ Rp X.K X.mg z x d) ∧ ∃ as, Reads h' v (pyD d) as) us ds
  | _, _, _, .nil, .nil, _ => .nil
  | _, _, d :: ds, .cons r1 t1, .cons r2 t2, hp => by
    obtain ⟨as, q⟩ := Dp.reads I _ _ _ (r2.dp ok.sub d (hp d List.mem_cons_self)) r1
    exact .cons ⟨⟨_, r1, r2⟩, as, PyProof.Rows.Reads.keeps hk q⟩ (each_rp I ok hk t1 t2 fun d hd => hp d (List.mem_cons_of_mem _ hd))
theorem each_back {K : PySem.W.Frag} {mg : Str → Option Value} {z : Z} : ∀ {us : List Value} {ds : List D}, PySem.W.EachIs (fun v d => ∃ x, RelV x v ∧ Rp K mg z x d) us ds → ∃ xs, Vals xs us ∧ RpL K mg z xs ds
  | _, _, .nil => ⟨[], .nil, .nil⟩
  | _, _, .cons ⟨x, h1, h2⟩ t => by
    obtain ⟨xs, h3, h4⟩ := each_back t
    exact ⟨x :: xs, .cons h1 h3, .cons h2 h4⟩
theorem cr_sortX {X : Cx} (hc : X.calm = true) (hu : X.A.units + 200 < cLine) : CallR X (.builtin "sorted") (rSortX X.K X.mg) := by
  intro pins s σ H vs us Q I r ⟨z, a, ds, ok, e, src, so, hz, k⟩
  subst e
  rw [Vals.ref1 r]
  have fin : ∀ z', Step X.K z H z' H → (∀ (E' : Value → Shared → Prop) (Q' : List Value → Shared → Prop), (∀ vs h' tk, (∀ b o, s.heap.get? b = some o → h'.get? b = some o) → PySem.W.EachIs (fun v d => (∃ x, RelV x v ∧ Rp X.K X.mg z' x d) ∧ ∃ as, Reads h' v (pyD d) as) vs ds → Q' vs { s with heap := h', toks := tk }) → wpAny (model X.prog X.w) X.A.in1 (collect (.ref a)) Q' E' s) →
      wpAny (model X.prog X.w) X.A (call (.builtin "sorted") [Value.ref a]) (EP X pins σ Q) X.xe s := fun z' st hcol => by
    refine PySem.W.pw_sorted_of (enc := pyD) (bs := ds) hcol so.alike so.kind hz (fun d hd => by have := so.depth d hd; omega) fun p h1 h' tk out c k1 hp k2 hg eo => ?_
    obtain ⟨ys, hv, hr⟩ := each_back eo
    have I1 : Inv X pins σ H { s with heap := h1 } := I.kept (t' := s.toks) k1
    have hl : ys.length ≤ sizeLine := by rw [hr.length]; show (sortL ds).length ≤ _; unfold sortL; rw [List.length_mergeSort]; exact hz
    exact ⟨.ref p, upd H p (.lst ys), I1.laid (t' := tk) k2 hp (show ObjOk X.prog X.w _ _ _ (.lst ys) from ⟨hl, out, c, hv, hg⟩), rfl, k z' ys p st hr (I1.hok.fresh hp)⟩
  have keepC : ∀ (vs : List Value) (b : Addr) (o : Obj), s.heap.get? b = some o → ((s.heap.push (seqObj "list" #[] 0)).update s.heap.objs.size (Obj.mapSeq (· ++ vs.toArray))).get? b = some o := fun vs b o e => by
    have hlt : b < s.heap.objs.size := Heap.lt_size e
    rw [Heap.get?_update_ne _ _ _ _ (Nat.ne_of_lt hlt), Heap.get?_push_ne _ _ _ (Nat.ne_of_lt hlt)]
    exact e
  cases src with
  | seq hs rl =>
    refine fin z (Step.refl ok) fun E' Q' hq => ?_
    rcases hs with hs | hs
    · obtain ⟨its, rv, pl, hz'⟩ := I.list hs
      exact collect_list pl.isList (hq its _ s.toks (keepC its) (each_rp I ok (keepC its) rv rl so.py)) (by rw [← rv.length]; exact hz')
    · obtain ⟨its, rv, pl, hz'⟩ := I.tuple hs
      exact PySem.W.pw_collect_tuple pl (hq its _ s.toks (keepC its) (each_rp I ok (keepC its) rv rl so.py)) (by rw [← rv.length]; exact hz')
  | @dK kvs ds q e2 =>
    refine fin z (Step.refl ok) fun E' Q' hq => ?_
    obtain ⟨zl, lo, vs, rk, hd⟩ := (show ObjOk X.prog X.w H s.heap a (.dK kvs) from I.hok a _ q)
    obtain ⟨ep, hat⟩ := hd.dictAt
    have hl : kvs.length = vs.length := Paired.length rk
    refine PySem.W.kdu_collect (A := X.A.in1) (PySem.W.kdl_dict (knd := mixKind X.prog X.w) (kvs := vs) (ep := ep) lo) (I.ok.hd hc) hat (by rw [← hl]; exact zl) fun h' tk acc hk hacc => ?_
    have hv : Vals (kvs.map fun kv => L2.kV kv.1) acc.toList := by
      have el : acc.toList.length = acc.size := by simp
      refine vals_of_at (by rw [List.length_map, el, hacc.1, hl]) fun j x w h1 h2 => ?_
      obtain ⟨k, y, hky, hi⟩ := hacc.2 j w (by rw [← Array.getElem?_toList]; exact h2)
      have e1 : (kvs.map (·.1))[j]? = some k := by
        rw [KV.keys rk, List.getElem?_map, hky] <;> rfl
      have e2 : (kvs.map fun kv => L2.kV kv.1)[j]? = some (L2.kV k) := by
        have e3 : (kvs.map fun kv => L2.kV kv.1) = (kvs.map (·.1)).map L2.kV := by rw [List.map_map] <;> rfl
        rw [e3, List.getElem?_map, e1] <;> rfl
      rw [e2] at h1
      cases h1
      exact keyIs_rel hi
    refine hq _ h' tk hk (each_rp I ok hk hv ?_ so.py)
    rw [e2]
    have e3 := rpL_keys (K := X.K) (mg := X.mg) (z := z) (List.map (fun kv => kv.1) kvs)
    rw [List.map_map, List.map_map] at e3
    exact e3
  | @dT kvs ds q e2 =>
    obtain ⟨zl, hs, ks, pr, o, es, ep, ho, hx, hdt, he, hn⟩ := (show ObjOk X.prog X.w H s.heap a (.dT kvs) from I.hok a _ q)
    obtain ⟨z', st', r'⟩ := freeze_keys (mg := X.mg) ok (isKeys_of pr)
    refine fin z' st' fun E' Q' hq => ?_
    have l1 : es.size = ks.length := size_of_entries he
    have l2 : kvs.length = ks.length := Paired.length pr
    refine PySem.W.kdu_collect (A := X.A.in1) (kdl_raw hs hx hdt) (I.ok.hd hc) ho (by omega) fun h' tk acc hk it => ?_
    have ea : acc.toList = ks.map fun x => Value.ref x.2.1 := by
      have hl : acc.toList.length = ks.length := by rw [Array.length_toList, it.1]; exact l1
      apply List.ext_getElem?
      intro j
      rw [List.getElem?_map]
      cases hj : acc.toList[j]? with
      | none =>
        have h1 := List.getElem?_eq_none_iff.mp hj
        rw [List.getElem?_eq_none (by omega)]
        all_goals rfl
      | some v =>
        obtain ⟨en, hen, hv⟩ := it.2 j v (by rw [← Array.getElem?_toList]; exact hj)
        have qe := entry_at he j
        rw [hen] at qe
        cases hb : ks[j]? with
        | none =>
          rw [hb] at qe
          exact nomatch (show some en = none from qe)
        | some b =>
          rw [hb] at qe
          have e2 : en = entryOfKey (tupleKind (mixKind X.prog X.w)) b := Option.some.inj qe
          rw [hv, e2]
          all_goals rfl
    have eb : acc.toList = (ks.map fun x => x.2.1).map Value.ref := by rw [ea, List.map_map]; all_goals rfl
    refine hq _ h' tk hk (each_rp I st'.ok hk (xs := (ks.map fun x => x.2.1).map V.ref) (by rw [eb]; exact vals_refs _) (by rw [e2]; exact r') so.py)
  | @rng lo hi ds q ro e2 =>
    refine fin z (Step.refl ok) fun E' Q' hq => ?_
    obtain ⟨b1, b2, b3, b4, b5⟩ := ro
    obtain ⟨t, u, v, hr⟩ := (show ObjOk X.prog X.w H s.heap a (.rng lo hi) from I.hok a _ q)
    exact collect_range (A := X.A.in1) (I.ok.hd hc) hr (small_one b1 b2 b3 b4) (rangeSize_nat lo hi) b5 fun h' tk acc hk hi' => hq _ h' tk hk (each_rp I ok hk (vals_rg hi') (by rw [e2]; exact rngD_rp _ _) so.py)
theorem c_sorted : CallFE M S (.builtin "sorted") D.sorted := fun X G => by
  refine ⟨_, cr_sortX G.calm (by have := G.room.un; omega), fun {z H vs ds Q} fc ok rs h => ?_⟩
  obtain ⟨d, rfl, h⟩ := one_run (fun ds => by cases ds with
    | nil => rfl
    | cons d t => cases t <;> rfl) h
  obtain ⟨v, rfl, r⟩ := rs.one
  obtain ⟨a, ds, rfl, src, h⟩ := src_run ok r h
  exact ⟨z, a, ds, ok, rfl, src, h.1.1, h.1.2, fun z' ys p st r hp fc2 => kF_new h.2 st fc2 hp (.lst r)⟩

/-! min, max -/
def D.minL (d : D) (ds : List D) : D := ds.foldl (fun a y => if PySem.W.dataLt (pyD y) (pyD a) then y else a) d
def D.maxL (d : D) (ds : List D) : D := ds.foldl (fun a y => if PySem.W.dataLt (pyD a) (pyD y) then y else a) d
structure MinOk (ds : List D) : Prop where
  py : ∀ d ∈ ds, d.py = some (pyD d)
  alike : PySem.W.AlikeAll (ds.map pyD)
  depth : ∀ d ∈ ds, (pyD d).depth ≤ 100
mutual
theorem py_inj : ∀ (d e : D) {p : PyData}, d.py = some p → e.py = some p → d = e
  | .non, e, _, h1, h2 => by
    cases h1
    cases e <;> first
      | rfl
      | (exfalso; simp [D.py] at h2; done)
  | .bl b, e, _, h1, h2 => by
    cases h1
    cases e <;> first
      | (cases h2; rfl)
      | (exfalso; simp [D.py] at h2; done)
  | .int b, e, _, h1, h2 => by
    cases h1
    cases e <;> first
      | (cases h2; rfl)
      | (exfalso; simp [D.py] at h2; done)
  | .str b, e, _, h1, h2 => by
    cases h1
    cases e <;> first
      | (cases h2; rfl)
      | (exfalso; simp [D.py] at h2; done)
  | .tup xs, e, _, h1, h2 => by
    rw [D.py] at h1
    obtain ⟨ps, q1, rfl⟩ := Option.map_eq_some_iff.mp h1
    cases e with
    | tup ys =>
      rw [D.py] at h2
      obtain ⟨qs, q2, e2⟩ := Option.map_eq_some_iff.mp h2
      cases e2
      rw [pyL_inj xs ys q1 q2]
    | lst ys =>
      rw [D.py] at h2
      obtain ⟨qs, q2, e2⟩ := Option.map_eq_some_iff.mp h2
      cases e2
    | _ => exfalso; simp [D.py] at h2; done
  | .lst xs, e, _, h1, h2 => by
    rw [D.py] at h1
    obtain ⟨ps, q1, rfl⟩ := Option.map_eq_some_iff.mp h1
    cases e with
    | lst ys =>
      rw [D.py] at h2
      obtain ⟨qs, q2, e2⟩ := Option.map_eq_some_iff.mp h2
      cases e2
      rw [pyL_inj xs ys q1 q2]
    | tup ys =>
      rw [D.py] at h2
      obtain ⟨qs, q2, e2⟩ := Option.map_eq_some_iff.mp h2
      cases e2
    | _ => exfalso; simp [D.py] at h2; done
  | .ty _, _, _, h1, _ => by cases h1
  | .dK _, _, _, h1, _ => by cases h1
  | .dT _, _, _, h1, _ => by cases h1
  | .rng _ _, _, _, h1, _ => by cases h1
  | .fn _, _, _, h1, _ => by cases h1
  | .bag, _, _, h1, _ => by cases h1
  | .scr, _, _, h1, _ => by cases h1
theorem pyL_inj : ∀ (d e : List D) {p : List PyData}, pyL d = some p → pyL e = some p → d = e
  | [], [], _, _, _ => rfl
  | [], e :: es, _, h1, h2 => by
    cases h1
    rw [pyL] at h2
    split at h2
    · cases h2
    · cases h2
  | d :: ds, [], _, h1, h2 => by
    cases h2
    rw [pyL] at h1
    split at h1
    · cases h1
    · cases h1
  | d :: ds, e :: es, p, h1, h2 => by
    rw [pyL] at h1 h2
    split at h1
    · rename_i p1 ps1 a1 a2
      cases h1
      split at h2
      · rename_i p2 ps2 b1 b2
        cases h2
        rw [py_inj d e a1 b1, pyL_inj ds es a2 b2]
      · cases h2
    · cases h1
end
theorem pyL_of : ∀ {ds : List D}, (∀ d ∈ ds, d.py = some (pyD d)) → pyL ds = some (ds.map pyD)
  | [], _ => rfl
  | d :: ds, h => by rw [pyL, h d List.mem_cons_self, pyL_of fun e he => h e (List.mem_cons_of_mem _ he)]; rfl
theorem minL_mem : ∀ (ds : List D) (d : D), D.minL d ds ∈ d :: ds
  | [], d => List.mem_cons_self
  | y :: ys, d => by
    have h := minL_mem ys (if PySem.W.dataLt (pyD y) (pyD d) then y else d)
    show D.minL (if PySem.W.dataLt (pyD y) (pyD d) then y else d) ys ∈ _
    rcases List.mem_cons.mp h with h | h
    · rw [h]
      split
      · exact List.mem_cons_of_mem _ List.mem_cons_self
      · exact List.mem_cons_self
    · exact List.mem_cons_of_mem _ (List.mem_cons_of_mem _ h)
theorem maxL_mem : ∀ (ds : List D) (d : D), D.maxL d ds ∈ d :: ds
  | [], d => List.mem_cons_self
  | y :: ys, d => by
    have h := maxL_mem ys (if PySem.W.dataLt (pyD d) (pyD y) then y else d)
    show D.maxL (if PySem.W.dataLt (pyD d) (pyD y) then y else d) ys ∈ _
    rcases List.mem_cons.mp h with h | h
    · rw [h]
      split
      · exact List.mem_cons_of_mem _ List.mem_cons_self
      · exact List.mem_cons_self
    · exact List.mem_cons_of_mem _ (List.mem_cons_of_mem _ h)
theorem pyD_minL : ∀ (ds : List D) (d : D), pyD (D.minL d ds) = PySem.W.minD (pyD d) (ds.map pyD)
  | [], d => rfl
  | y :: ys, d => by
    show pyD (D.minL (if PySem.W.dataLt (pyD y) (pyD d) then y else d) ys) = PySem.W.minD (if PySem.W.dataLt (pyD y) (pyD d) then pyD y else pyD d) (ys.map pyD)
    rw [pyD_minL ys]
    split <;> rfl
theorem pyD_maxL : ∀ (ds : List D) (d : D), pyD (D.maxL d ds) = PySem.W.maxD (pyD d) (ds.map pyD)
  | [], d => rfl
  | y :: ys, d => by
    show pyD (D.maxL (if PySem.W.dataLt (pyD d) (pyD y) then y else d) ys) = PySem.W.maxD (if PySem.W.dataLt (pyD d) (pyD y) then pyD y else pyD d) (ys.map pyD)
    rw [pyD_maxL ys]
    split <;> rfl
theorem depthAll_le : ∀ {ps : List PyData} {n : Nat}, (∀ p ∈ ps, p.depth ≤ n) → PyData.depthAll ps ≤ n
  | [], n, _ => by simp [PyData.depthAll]
  | p :: ps, n, h => by
    rw [PyData.depthAll]
    exact Nat.max_le.mpr ⟨h p List.mem_cons_self, depthAll_le fun q hq => h q (List.mem_cons_of_mem _ hq)⟩
def rMinX (K : PySem.W.Frag) (mg : Str → Option Value) (f : D → List D → D) : List V → Hp → VK → Prop := fun vs H Q => ∃ z a d ds xs, ZOk K z H ∧ vs = [V.ref a] ∧ (SqL K H a xs ∨ SqT K H a xs) ∧ RpL K mg z xs (d :: ds) ∧ MinOk (d :: ds) ∧ ∀ y, Rp K mg z y (f d ds) → Q y H
theorem at_of {X : Cx} {pins : List (Addr × Obj)} {σ : Sg} {H : Hp} {s : Shared} {z : Z} (I : Inv X pins σ H s) (ok : ZOk X.K z H) {xs : List V} {us : List Value} {ds : List D} (rv : Vals xs us) (rl : RpL X.K X.mg z xs ds) (m : MinOk ds) {i : Nat} {v : Value} (hv : us[i]? = some v)
    {h' : Heap} (hk : ∀ b o, s.heap.get? b = some o → h'.get? b = some o) {e : D} (he : e ∈ ds) {bs : List Addr} (rd : Reads h' v (pyD e) bs) : ∃ y, RelV y v ∧ Rp X.K X.mg z y e := by
  have hi := (List.getElem?_eq_some_iff.mp hv).1
  have hl : xs.length = us.length := rv.length
  have hx : xs[i]? = some xs[i] := List.getElem?_eq_getElem (by omega)
  obtain ⟨d, hd, r⟩ := rl.getV hx
  have r1 : RelV xs[i] v := by
    have : ∀ {xs : List V} {us : List Value} {i : Nat} {x : V} {v : Value}, Vals xs us → xs[i]? = some x → us[i]? = some v → RelV x v := by
      intro xs us i x v h
      induction h generalizing i with
      | nil => intro e; simp at e
      | cons h t ih =>
        intro e1 e2
        cases i with
        | zero => simp at e1 e2; subst e1; subst e2; exact h
        | succ i => exact ih (by simpa using e1) (by simpa using e2)
    exact this rv hx hv
  have hdm : d ∈ ds := List.mem_of_getElem? hd
  obtain ⟨as, q⟩ := Dp.reads I _ _ _ (r.dp ok.sub d (m.py d hdm)) r1
  have e1 : pyD d = pyD e := PySem.W.alike_unique _ _ _ _ _ (m.alike.1 _ (List.mem_map.mpr ⟨d, hdm, rfl⟩) _ (List.mem_map.mpr ⟨e, he, rfl⟩)) (PyProof.Rows.Reads.keeps hk q) rd
  have e2 : d = e := py_inj d e (m.py d hdm) (by rw [e1]; exact m.py e he)
  subst e2
  exact ⟨_, r1, r⟩
theorem cr_minX {X : Cx} (hc : X.calm = true) (hu : X.A.units + 200 < cLine) : CallR X (.builtin "min") (rMinX X.K X.mg D.minL) := by
  intro pins s σ H vs us Q I r ⟨z, a, d, ds, xs, ok, e, hs, rl, m, k⟩
  subst e
  rw [Vals.ref1 r]
  have hdep : X.A.units + 1 + PyData.depthAll (pyD d :: ds.map pyD) < cLine := by
    have : PyData.depthAll (pyD d :: ds.map pyD) ≤ 100 := depthAll_le fun p hp => by
      obtain ⟨e, he, rfl⟩ := List.mem_map.mp (show p ∈ (d :: ds).map pyD from hp)
      exact m.depth e he
    omega
  rcases hs with hs | hs
  · obtain ⟨its, rv, pl, hz⟩ := I.list hs
    obtain ⟨as, hr⟩ := Dp.readsAll I _ _ _ (rl.dp ok.sub (d :: ds) (pyL_of m.py)) rv
    refine PySem.W.min_list_data (I.ok.hd hc) pl.isList hr m.alike hdep fun i v h' tk bs hv rd hk => ?_
    rw [← pyD_minL] at rd
    obtain ⟨y, r1, r2⟩ := at_of I ok rv rl m (by simpa using hv) hk (minL_mem ds d) rd
    exact ⟨y, H, I.kept (t' := tk) hk, r1, k y r2⟩
  · obtain ⟨its, rv, pl, hz⟩ := I.tuple hs
    obtain ⟨as, hr⟩ := Dp.readsAll I _ _ _ (rl.dp ok.sub (d :: ds) (pyL_of m.py)) rv
    refine PySem.W.min_tuple_data (I.ok.hd hc) pl hr m.alike hdep fun i v h' tk bs hv rd hk => ?_
    rw [← pyD_minL] at rd
    obtain ⟨y, r1, r2⟩ := at_of I ok rv rl m (by simpa using hv) hk (minL_mem ds d) rd
    exact ⟨y, H, I.kept (t' := tk) hk, r1, k y r2⟩
theorem cr_maxX {X : Cx} (hc : X.calm = true) (hu : X.A.units + 200 < cLine) : CallR X (.builtin "max") (rMinX X.K X.mg D.maxL) := by
  intro pins s σ H vs us Q I r ⟨z, a, d, ds, xs, ok, e, hs, rl, m, k⟩
  subst e
  rw [Vals.ref1 r]
  have hdep : X.A.units + 1 + PyData.depthAll (pyD d :: ds.map pyD) < cLine := by
    have : PyData.depthAll (pyD d :: ds.map pyD) ≤ 100 := depthAll_le fun p hp => by
      obtain ⟨e, he, rfl⟩ := List.mem_map.mp (show p ∈ (d :: ds).map pyD from hp)
      exact m.depth e he
    omega
  rcases hs with hs | hs
  · obtain ⟨its, rv, pl, hz⟩ := I.list hs
    obtain ⟨as, hr⟩ := Dp.readsAll I _ _ _ (rl.dp ok.sub (d :: ds) (pyL_of m.py)) rv
    refine PySem.W.max_list_data (I.ok.hd hc) pl.isList hr m.alike hdep fun i v h' tk bs hv rd hk => ?_
    rw [← pyD_maxL] at rd
    obtain ⟨y, r1, r2⟩ := at_of I ok rv rl m (by simpa using hv) hk (maxL_mem ds d) rd
    exact ⟨y, H, I.kept (t' := tk) hk, r1, k y r2⟩
  · obtain ⟨its, rv, pl, hz⟩ := I.tuple hs
    obtain ⟨as, hr⟩ := Dp.readsAll I _ _ _ (rl.dp ok.sub (d :: ds) (pyL_of m.py)) rv
    refine PySem.W.max_tuple_data (I.ok.hd hc) pl hr m.alike hdep fun i v h' tk bs hv rd hk => ?_
    rw [← pyD_maxL] at rd
    obtain ⟨y, r1, r2⟩ := at_of I ok rv rl m (by simpa using hv) hk (maxL_mem ds d) rd
    exact ⟨y, H, I.kept (t' := tk) hk, r1, k y r2⟩
def D.min : List D → W D
  | [.int i, .int j] => W.pure (.int (if j < i then j else i))
  | [.lst (d :: ds)] => (W.need (MinOk (d :: ds))).bind fun _ => W.pure (D.minL d ds)
  | [.tup (d :: ds)] => (W.need (MinOk (d :: ds))).bind fun _ => W.pure (D.minL d ds)
  | _ => W.fail
def D.max : List D → W D
  | [.int i, .int j] => W.pure (.int (if j > i then j else i))
  | [.lst (d :: ds)] => (W.need (MinOk (d :: ds))).bind fun _ => W.pure (D.maxL d ds)
  | [.tup (d :: ds)] => (W.need (MinOk (d :: ds))).bind fun _ => W.pure (D.maxL d ds)
  | _ => W.fail
theorem c_min : CallE M S (.builtin "min") D.min := fun X G => by
  refine ⟨_, (call_min2 G.calm).or (cr_minX G.calm (by have := G.room.un; omega)), fun {z H vs ds Q} fc ok rs h => ?_⟩
  unfold D.min at h
  split at h
  · obtain ⟨v, u, rfl, r, r'⟩ := rs.two
    exact .inl ⟨_, _, by rw [r.int, r'.int], fun _ => h.now ok fc (.int _)⟩
  · obtain ⟨v, rfl, r⟩ := rs.one
    obtain ⟨a, vs, rfl, q, r⟩ := r.lst ok
    exact .inr ⟨z, a, _, _, vs, ok, rfl, .inl (.of q), r, h.1, fun y ry _ => h.2.now ok fc ry⟩
  · obtain ⟨v, rfl, r⟩ := rs.one
    obtain ⟨a, vs, rfl, q, r⟩ := r.tup ok
    exact .inr ⟨z, a, _, _, vs, ok, rfl, .inr (.of q), r, h.1, fun y ry _ => h.2.now ok fc ry⟩
  · exact (show False from h).elim
theorem c_max : CallE M S (.builtin "max") D.max := fun X G => by
  refine ⟨_, (call_max2 G.calm).or (cr_maxX G.calm (by have := G.room.un; omega)), fun {z H vs ds Q} fc ok rs h => ?_⟩
  unfold D.max at h
  split at h
  · obtain ⟨v, u, rfl, r, r'⟩ := rs.two
    exact .inl ⟨_, _, by rw [r.int, r'.int], fun _ => h.now ok fc (.int _)⟩
  · obtain ⟨v, rfl, r⟩ := rs.one
    obtain ⟨a, vs, rfl, q, r⟩ := r.lst ok
    exact .inr ⟨z, a, _, _, vs, ok, rfl, .inl (.of q), r, h.1, fun y ry _ => h.2.now ok fc ry⟩
  · obtain ⟨v, rfl, r⟩ := rs.one
    obtain ⟨a, vs, rfl, q, r⟩ := r.tup ok
    exact .inr ⟨z, a, _, _, vs, ok, rfl, .inr (.of q), r, h.1, fun y ry _ => h.2.now ok fc ry⟩
  · exact (show False from h).elim
end
end PW

set_option Elab.async false
set_option linter.all false
set_option maxRecDepth 100000
set_option maxHeartbeats 1000000
namespace PW
open PySem PySem.Spec PyProof.Rows L2

/-! ### keys of dicts -/
def asKey : D → Option Key
  | .int i => some (.inl i)
  | .str x => some (.inr x)
  | _ => none
def asKeys : List D → Option (List Key)
  | [] => some []
  | d :: ds => match asKey d, asKeys ds with
    | some k, some ks => some (k :: ks)
    | _, _ => none
section
variable {K : PySem.W.Frag} {mg : Str → Option Value} {z : Z} {H : Hp}
theorem asKey_eq {v : V} {d : D} {k : Key} (r : Rp K mg z v d) (e : asKey d = some k) : v = L2.kV k := by
  cases d with
  | int i => cases e; cases r; rfl
  | str i => cases e; cases r; rfl
  | _ => cases e
theorem asKeys_eq : ∀ {vs : List V} {ds : List D} {ks : List Key}, RpL K mg z vs ds → asKeys ds = some ks → vs = ks.map L2.kV
  | _, _, _, .nil, e => by cases e; rfl
  | _, _, _, .cons (d := d) (ds := ds) h r, e => by
    unfold asKeys at e
    cases q : asKey d with
    | none => rw [q] at e; cases e
    | some k =>
      cases q2 : asKeys ds with
      | none => rw [q, q2] at e; cases e
      | some ks =>
        rw [q, q2] at e
        cases e
        rw [asKey_eq h q, asKeys_eq r q2]
        rfl
/-- what a dict holds -/
def getK {κ : Type} [DecidableEq κ] (kvs : List (κ × D)) (k : κ) : Option D := (kvs.find? fun kv => decide (kv.1 = k)).map (·.2)
theorem getK_K : ∀ {vs : List (Key × V)} {ds : List (Key × D)} (k : Key), RpK K mg z vs ds → (valV vs k = none ∧ getK ds k = none) ∨ ∃ v d, valV vs k = some v ∧ getK ds k = some d ∧ Rp K mg z v d
  | _, _, k, .nil => .inl ⟨rfl, rfl⟩
  | _, _, k, .cons (k := k') (v := v) (d := d) h r => by
    by_cases e : k' = k
    · exact .inr ⟨v, d, valV_pos e, by simp [getK, List.find?_cons, e], h⟩
    · have e1 : ∀ {ds : List (Key × D)}, getK ((k', d) :: ds) k = getK ds k := by intro ds; simp [getK, List.find?_cons, e]
      rw [valV_neg (p := (k', v)) e, e1]
      exact getK_K k r
theorem getK_T : ∀ {vs : List (List Key × V)} {ds : List (List Key × D)} (k : List Key), RpT K mg z vs ds → (valV vs k = none ∧ getK ds k = none) ∨ ∃ v d, valV vs k = some v ∧ getK ds k = some d ∧ Rp K mg z v d
  | _, _, k, .nil => .inl ⟨rfl, rfl⟩
  | _, _, k, .cons (k := k') (v := v) (d := d) h r => by
    by_cases e : k' = k
    · exact .inr ⟨v, d, valV_pos e, by simp [getK, List.find?_cons, e], h⟩
    · have e1 : ∀ {ds : List (List Key × D)}, getK ((k', d) :: ds) k = getK ds k := by intro ds; simp [getK, List.find?_cons, e]
      rw [valV_neg (p := (k', v)) e, e1]
      exact getK_T k r
/-- looking a key up -/
def D.find : D → D → W (Option D)
  | .dK kvs, d => (W.some? (asKey d)).bind fun k => W.pure (getK kvs k)
  | .dT kvs, .tup ds => (W.some? (asKeys ds)).bind fun k => W.pure (getK kvs k)
  | _, _ => W.fail
theorem find_run {c d : D} {x y : V} {Q : Option D → Prop} (ok : ZOk K z H) (rc : RB K mg z H x c) (rd : Rp K mg z y d) (h : (c.find d).run Q) :
    ∃ a o r, x = .ref a ∧ DGet H a y o ∧ Q r ∧ ((o = none ∧ r = none) ∨ ∃ v d, o = some v ∧ r = some d ∧ Rp K mg z v d) := by
  unfold D.find at h
  split at h
  · obtain ⟨a, kvs, rfl, q, r⟩ := rc.dK ok
    obtain ⟨k, e, h⟩ := some_run h
    refine ⟨a, _, _, rfl, by rw [asKey_eq rd e]; exact DGet.k q, h, ?_⟩
    exact getK_K k r
  · obtain ⟨a, kvs, rfl, q, r⟩ := rc.dT ok
    obtain ⟨k, e, h⟩ := some_run h
    cases rd with
    | tup hf rl =>
      have eb := ok.sub _ _ hf
      rw [asKeys_eq rl e] at eb
      refine ⟨a, _, _, rfl, DGet.t q eb, h, ?_⟩
      exact getK_T k r
  · exact (show False from h).elim
end

/-! ### in, not in -/
def D.has : D → D → W Bool
  | d, .lst xs => d.py?.bind fun p => (D.lst xs).py?.bind fun _ => (W.some? (pyL xs)).bind fun ps => W.pure (ps.any fun q => PyData.eqv q p)
  | d, .tup xs => d.py?.bind fun p => (D.tup xs).py?.bind fun _ => (W.some? (pyL xs)).bind fun ps => W.pure (ps.any fun q => PyData.eqv q p)
  | .str x, .str y => W.pure (!(Builtin.Str.occurrences y x 0 y.length 1).isEmpty)
  | d, c => (c.find d).bind fun r => W.pure r.isSome
section
variable {X : Cx}
theorem op_inT (hu : X.A.units + 65 < cLine) : OpR X (compareOp .In) (fun x y H Q => ∃ d ds, Dp X.K H x d ∧ Dp X.K H y (.tuple ds) ∧ SeqAt.shaped d = true ∧ SeqAt.shaped (.tuple ds) = true ∧ Q (.bl (ds.any fun z => PyData.eqv z d)) H) := by
  intro pins s σ H x y v u Q I rx ry h
  obtain ⟨d, ds, hd, he, sd, se, q⟩ := h
  obtain ⟨as, r1⟩ := Dp.reads I d x v hd rx
  obtain ⟨bs, r2⟩ := Dp.reads I (.tuple ds) y u he ry
  exact SeqAt.in_tuple_reads r2 r1 (SeqAt.canLay_of_shaped se) (SeqAt.canLay_of_shaped sd) (room_in_shaped sd hu) ⟨.bl _, H, I, rfl, q⟩
theorem op_notInT (hu : X.A.units + 65 < cLine) : OpR X (compareOp .NotIn) (fun x y H Q => ∃ d ds, Dp X.K H x d ∧ Dp X.K H y (.tuple ds) ∧ SeqAt.shaped d = true ∧ SeqAt.shaped (.tuple ds) = true ∧ Q (.bl (!ds.any fun z => PyData.eqv z d)) H) := by
  intro pins s σ H x y v u Q I rx ry h
  obtain ⟨d, ds, hd, he, sd, se, q⟩ := h
  obtain ⟨as, r1⟩ := Dp.reads I d x v hd rx
  obtain ⟨bs, r2⟩ := Dp.reads I (.tuple ds) y u he ry
  exact SeqAt.notIn_tuple_reads r2 r1 (SeqAt.canLay_of_shaped se) (SeqAt.canLay_of_shaped sd) (room_in_shaped sd hu) ⟨.bl _, H, I, rfl, q⟩
theorem op_inDct (hu : X.A.units + 1 < cLine) : OpR X (compareOp .In) (fun x y H Q => ∃ a r, y = .ref a ∧ DGet H a x r ∧ Q (.bl r.isSome) H) := by
  intro pins s σ H x y v u Q I rx ry h
  obtain ⟨a, r, rfl, g, q⟩ := h
  cases ry
  exact d_in hu I g rx fun s' I' => ⟨.bl _, H, I', rfl, q⟩
theorem op_notInDct (hu : X.A.units + 1 < cLine) : OpR X (compareOp .NotIn) (fun x y H Q => ∃ a r, y = .ref a ∧ DGet H a x r ∧ Q (.bl (!r.isSome)) H) := by
  intro pins s σ H x y v u Q I rx ry h
  obtain ⟨a, r, rfl, g, q⟩ := h
  cases ry
  exact d_notIn hu I g rx fun s' I' => ⟨.bl _, H, I', rfl, q⟩
end
def D.in (d c : D) : W D := (d.has c).bind fun b => W.pure (.bl b)
def D.notIn (d c : D) : W D := (d.has c).bind fun b => W.pure (.bl !b)
section
variable {K : PySem.W.Frag} {mg : Str → Option Value} {z : Z} {H : Hp}
/-- the five readings of in -/
inductive Has (K : PySem.W.Frag) (H : Hp) (x y : V) (b : Bool) : Prop
  | l (d : PyData) (ds : List PyData) : Dp K H x d → Dp K H y (.list ds) → SeqAt.shaped d = true → SeqAt.shaped (.list ds) = true → b = (ds.any fun z => PyData.eqv z d) → Has K H x y b
  | t (d : PyData) (ds : List PyData) : Dp K H x d → Dp K H y (.tuple ds) → SeqAt.shaped d = true → SeqAt.shaped (.tuple ds) = true → b = (ds.any fun z => PyData.eqv z d) → Has K H x y b
  | s (i j : Str) : x = .str i → y = .str j → b = (!(Builtin.Str.occurrences j i 0 j.length 1).isEmpty) → Has K H x y b
  | d (a : Addr) (r : Option V) : y = .ref a → DGet H a x r → b = r.isSome → Has K H x y b
theorem has_run {d c : D} {x y : V} {Q : Bool → Prop} (ok : ZOk K z H) (rx : Rp K mg z x d) (rc : RB K mg z H y c) (h : (d.has c).run Q) : ∃ b, Has K H x y b ∧ Q b := by
  unfold D.has at h
  split at h
  · obtain ⟨p, e1, s1, h⟩ := py_run h
    obtain ⟨q, e2, s2, h⟩ := py_run h
    have h : ((W.some? (pyL _)).bind fun ps => W.pure (ps.any fun q => PyData.eqv q p)).run Q := h
    obtain ⟨ps, e3, h5⟩ := some_run h
    have e4 : q = .list ps := by
      have e2 : (pyL _).map PyData.list = some q := e2
      rw [e3] at e2
      cases e2
      rfl
    subst e4
    exact ⟨_, .l p ps (rx.dp ok.sub _ e1) (rc.dp ok e2) s1 s2 rfl, h5⟩
  · obtain ⟨p, e1, s1, h⟩ := py_run h
    obtain ⟨q, e2, s2, h⟩ := py_run h
    have h : ((W.some? (pyL _)).bind fun ps => W.pure (ps.any fun q => PyData.eqv q p)).run Q := h
    obtain ⟨ps, e3, h5⟩ := some_run h
    have e4 : q = .tuple ps := by
      have e2 : (pyL _).map PyData.tuple = some q := e2
      rw [e3] at e2
      cases e2
      rfl
    subst e4
    exact ⟨_, .t p ps (rx.dp ok.sub _ e1) (rc.dp ok e2) s1 s2 rfl, h5⟩
  · cases rx
    exact ⟨_, .s _ _ rfl rc.str rfl, h⟩
  · obtain ⟨a, o, r, e, g, h, q⟩ := find_run ok rc rx h
    refine ⟨_, .d a o e g rfl, ?_⟩
    rcases q with ⟨q1, q2⟩ | ⟨v, d, q1, q2, _⟩
    · rw [q1]
      rw [q2] at h
      exact h
    · rw [q1]
      rw [q2] at h
      exact h
end
/-- an operator whose left side is known -/
def OpV1 (X : Cx) (r : R2) (w : D → D → W D) : Prop := ∀ {z : Z} {H : Hp} {x y : V} {d e : D} {Q : VK}, Fct X.K H → ZOk X.K z H → Rp X.K X.mg z x d → RB X.K X.mg z H y e → (w d e).run (kV X.K X.mg z H Q) → r x y H (fun v H' => Fct X.K H' → Q v H')
def OpE1 (M : Mo) (S : Fix) (fn : Value → Value → Sem Value) (w : D → D → W D) : Prop := ∀ X, Good M S X → ∃ r, OpR X fn r ∧ OpV1 X r w
section
variable {M : Mo} {S : Fix} {e a b c : Expr} {es : List Expr} {f g h : Env → W D} {pos : Pos} {w : D → D → W D}
theorem o_in : OpE1 M S (compareOp .In) D.in := fun X G => by
  have hu := G.room.un
  refine ⟨_, ((op_inD (by omega)).or (op_inT (by omega))).or ((op_in_str).or (op_inDct (by omega))), fun {z H x y d e Q} fc ok rx ry h => ?_⟩
  obtain ⟨b, q, h⟩ := has_run ok rx ry h
  cases q with
  | l d ds h1 h2 h3 h4 e => subst e; exact .inl (.inl ⟨d, ds, h1, h2, h3, h4, fun _ => kV.now h ok fc (.bl _)⟩)
  | t d ds h1 h2 h3 h4 e => subst e; exact .inl (.inr ⟨d, ds, h1, h2, h3, h4, fun _ => kV.now h ok fc (.bl _)⟩)
  | s i j h1 h2 e => subst e; exact .inr (.inl ⟨i, j, h1, h2, fun _ => kV.now h ok fc (.bl _)⟩)
  | d a r h1 h2 e => subst e; exact .inr (.inr ⟨a, r, h1, h2, fun _ => kV.now h ok fc (.bl _)⟩)
theorem o_notin : OpE1 M S (compareOp .NotIn) D.notIn := fun X G => by
  have hu := G.room.un
  refine ⟨_, ((op_notInD (by omega)).or (op_notInT (by omega))).or ((op_notIn_str).or (op_notInDct (by omega))), fun {z H x y d e Q} fc ok rx ry h => ?_⟩
  obtain ⟨b, q, h⟩ := has_run ok rx ry h
  cases q with
  | l d ds h1 h2 h3 h4 e => subst e; exact .inl (.inl ⟨d, ds, h1, h2, h3, h4, fun _ => kV.now h ok fc (.bl _)⟩)
  | t d ds h1 h2 h3 h4 e => subst e; exact .inl (.inr ⟨d, ds, h1, h2, h3, h4, fun _ => kV.now h ok fc (.bl _)⟩)
  | s i j h1 h2 e => subst e; exact .inr (.inl ⟨i, j, h1, h2, fun _ => kV.now h ok fc (.bl _)⟩)
  | d a r h1 h2 e => subst e; exact .inr (.inr ⟨a, r, h1, h2, fun _ => kV.now h ok fc (.bl _)⟩)
theorem v_cmp1 {op : CmpOp} (ho : OpE1 M S (compareOp op) w) (ha : EvV M S a f) (hb : EvB M S b g) (hm : behindInMarks op b = false := by kernel_rfl) : EvV M S (.Compare a [op] [b] pos) fun ρ => (f ρ).bind fun d => (g ρ).bind fun e => w d e := fun X G => by
  obtain ⟨r, ho, hv⟩ := ho X G
  refine (pe_cmpR ho (ha X G) (hb X G) hm).impW fun σ H Q fc ⟨z0, H0, z, ρ, E, h⟩ => ?_
  refine ⟨z0, H0, z, ρ, E, (f ρ).mono (fun d k x z1 H1 st1 fc1 r1 => ?_) h⟩
  refine ⟨z0, H0, z1, ρ, E.step st1, (g ρ).mono (fun e k2 y z2 H2 st2 fc2 r2 => ?_) k⟩
  exact hv fc2 st2.ok (r1.le st2.le) r2 ((w d e).mono (fun d k => k.step (st1.trans st2)) k2)
theorem t_cmp1 {op : CmpOp} (ho : OpE1 M S (compareOp op) w) (ha : EvV M S a f) (hb : EvB M S b g) (hm : behindInMarks op b = false := by kernel_rfl) : EvT M S (.Compare a [op] [b] pos) fun ρ => (f ρ).bind fun d => (g ρ).bind fun e => (w d e).bind D.tr := fun X G => by
  obtain ⟨r, ho, hv⟩ := ho X G
  refine (pt_cmpR (opR_fct ho) (ha X G) (hb X G) hm).impW fun σ H Q fc hh => ?_
  obtain ⟨z0, H0, z, ρ, E, h⟩ := hh
  refine ⟨z0, H0, z, ρ, E, (f ρ).mono (fun d k x z1 H1 st1 fc1 r1 => ?_) h⟩
  refine ⟨z0, H0, z1, ρ, E.step st1, (g ρ).mono (fun e k2 y z2 H2 st2 fc2 r2 => ?_) k⟩
  have q := hv (Q := fun v H' => ∃ k, v = .bl k ∧ (Fct X.K H' → Q k H')) fc2 st2.ok (r1.le st2.le) r2 ((w d e).mono (fun d k v z' H' st fc r => by
    obtain ⟨b, rfl, k⟩ := tr_run k
    cases r
    exact ⟨b, rfl, fun fc => k z' H' ((st1.trans st2).trans st) fc⟩) k2)
  exact q

/-! ### subscripts -/
theorem ix_dct {X : Cx} (hu : X.A.units + 1 < cLine) : IxR X (fun x y H Q => ∃ a v, x = .ref a ∧ DGet H a y (some v) ∧ Q v H) := by
  intro value slice pins s σ H x y v u Q I rx ry h hs
  obtain ⟨a, w, rfl, g, q⟩ := h
  obtain rfl : v = Value.ref a := rx
  exact tail_any (dict_typeIs I g) PySem.F.slot_dict_getitem.lookup (d_getItem hu I g ry fun w' s' I' rw' => ⟨w, H, I', rw', q⟩) hs
def D.ix : D → D → W D
  | .lst xs, .int i => W.some? (atI xs i)
  | .tup xs, .int i => W.some? (atI xs i)
  | .str z, .int i => (W.need (z.length ≤ sizeLine)).bind fun _ => (W.some? (atI z.cps.toList i)).bind fun c => W.pure (.str ⟨#[c]⟩)
  | c, d => (c.find d).bind W.some?
theorem RpL.atI {K : PySem.W.Frag} {mg : Str → Option Value} {z : Z} {vs : List V} {ds : List D} {i : Int} {d : D} (r : RpL K mg z vs ds) (e : atI ds i = some d) : ∃ v, L2.atI vs i = some v ∧ Rp K mg z v d := by
  unfold L2.atI at e ⊢
  rw [r.length]
  cases q : ixN ds.length i with
  | none => rw [q] at e; cases e
  | some j =>
    rw [q] at e
    exact r.get e
theorem v_ix (ha : EvB M S a f) (hb : EvV M S b g) (hs : PlainIx b := by intro _ _; kernel_rfl) : EvV M S (.Subscript a b pos) fun ρ => (f ρ).bind fun d => (g ρ).bind fun e => d.ix e := fun X G => by
  refine (pe_ix (ix_seq.or (ix_dct (by have := G.room.un; omega))) (ha X G) (hb X G) hs).impW fun σ H Q fc ⟨z0, H0, z, ρ, E, h⟩ => ?_
  refine ⟨z0, H0, z, ρ, E, (f ρ).mono (fun d k x z1 H1 st1 fc1 r1 => ?_) h⟩
  refine ⟨z0, H0, z1, ρ, E.step st1, (g ρ).mono (fun e k2 y z2 H2 st2 fc2 r2 => ?_) k⟩
  have r3 := r1.step st2
  have st12 := st1.trans st2
  have k2 : (D.ix d e).run (kV X.K X.mg z H Q) := k2
  unfold D.ix at k2
  split at k2
  · obtain ⟨v, e, k⟩ := some_run k2
    obtain ⟨a, vs, rfl, q, r⟩ := r3.lst st2.ok
    cases r2
    obtain ⟨v', e', r'⟩ := r.atI e
    exact .inl (.inl ⟨a, vs, _, v', rfl, rfl, .of q, e', fun _ => k v' z2 H2 st12 fc2 r'⟩)
  · obtain ⟨v, e, k⟩ := some_run k2
    obtain ⟨a, vs, rfl, q, r⟩ := r3.tup st2.ok
    cases r2
    obtain ⟨v', e', r'⟩ := r.atI e
    exact .inl (.inr (.inl ⟨a, vs, _, v', rfl, rfl, .of q, e', fun _ => k v' z2 H2 st12 fc2 r'⟩))
  · obtain ⟨hz, k⟩ := k2
    obtain ⟨c, e, k⟩ := some_run k
    cases r2
    exact .inl (.inr (.inr ⟨_, _, c, r3.str, rfl, hz, e, fun _ => k _ z2 H2 st12 fc2 (.str _)⟩))
  · obtain ⟨a, o, r, e, g, k, q⟩ := find_run st2.ok r3 r2 k2
    rcases q with ⟨q1, q2⟩ | ⟨v, d, q1, q2, r⟩
    · rw [q2] at k; exact (show False from k).elim
    · rw [q2] at k
      rw [q1] at g
      exact .inr ⟨a, v, e, g, fun _ => k v z2 H2 st12 fc2 r⟩

/-! ### slices -/
def kO (K : PySem.W.Frag) (z : Z) (H : Hp) (Q : Option Int → Hp → Prop) : Option Int → Prop := fun o => ∀ z' H', Step K z H z' H' → Fct K H' → Q o H'
def tO (K : PySem.W.Frag) (mg : Str → Option Value) (mt : List Nat) (f : Env → W (Option Int)) : TO := fun σ H Q => ∃ z0 H0 z ρ, EnvR mt K mg z0 H0 z H σ ρ ∧ (f ρ).run (kO K z H Q)
def EvO (M : Mo) (S : Fix) (e : Option Expr) (f : Env → W (Option Int)) : Prop := ∀ X, Good M S X → PO X e (tO X.K X.mg S.mt f)
theorem _root_.L2.PO.impW {X : Cx} {e : Option Expr} {t t' : TO} (h : PO X e t) (hi : ∀ σ H Q, Fct X.K H → t' σ H Q → t σ H (fun v H' => Fct X.K H' → Q v H')) : PO X e t' :=
  ⟨fun pins s σ H Q I hw => thn (h.run pins s σ H _ I (hi σ H Q (fct_of I) hw)) fun _ _ ⟨v, H', I', r, q⟩ => ⟨v, H', I', r, q (fct_of I')⟩⟩
theorem p_none : EvO M S none fun _ => W.pure none := fun X G => po_none.impW fun σ H Q fc ⟨z0, H0, z, ρ, E, h⟩ => fun _ => h z H (Step.refl E.ok) fc
def D.asInt : D → W Int
  | .int i => W.pure i
  | _ => W.fail
theorem asInt_run {d : D} {Q : Int → Prop} (h : d.asInt.run Q) : ∃ i, d = .int i ∧ Q i := by
  cases d with
  | int i => exact ⟨i, rfl, h⟩
  | _ => exact (show False from h).elim
theorem p_some (ha : EvV M S a f) : EvO M S (some a) fun ρ => (f ρ).bind fun d => d.asInt.bind fun i => W.pure (some i) := fun X G => (po_some (ha X G)).impW fun σ H Q fc ⟨z0, H0, z, ρ, E, h⟩ => by
  refine ⟨z0, H0, z, ρ, E, (f ρ).mono (fun d k v z1 H1 st1 fc1 r1 => ?_) h⟩
  obtain ⟨i, rfl, k⟩ := asInt_run k
  cases r1
  exact ⟨i, rfl, fun _ => k z1 H1 st1 fc1⟩
/-- what lies in a slice -/
def cutL {α : Type} (xs : List α) (lo hi : Option Int) : List α := (xs.drop (HT.sIx xs.length 0 lo)).take (HT.sIx xs.length xs.length hi - HT.sIx xs.length 0 lo)
theorem RpL.cut {K : PySem.W.Frag} {mg : Str → Option Value} {z : Z} {vs : List V} {ds : List D} (r : RpL K mg z vs ds) (lo hi : Option Int) : RpL K mg z (cutV vs lo hi) (cutL ds lo hi) := by
  unfold cutV cutL
  rw [r.length]
  exact (r.drop _).take _
def D.slice : D → Option Int → Option Int → W D
  | .lst xs, lo, hi => W.pure (.lst (cutL xs lo hi))
  | .tup xs, lo, hi => W.pure (.tup (cutL xs lo hi))
  | _, _, _ => W.fail
variable {lo hi : Option Expr} {fl fh : Env → W (Option Int)} {p2 : Pos}
theorem v_slice (ha : EvB M S a f) (hl : EvO M S lo fl) (hh : EvO M S hi fh) : EvV M S (.Subscript a (.Slice lo hi none p2) pos) fun ρ => (f ρ).bind fun d => (fl ρ).bind fun l => (fh ρ).bind fun u => d.slice l u := fun X G => by
  refine (pe_slice (sl_list.or sl_tupA) (ha X G) (hl X G) (hh X G)).impW fun σ H Q fc ⟨z0, H0, z, ρ, E, h⟩ => ?_
  refine ⟨z0, H0, z, ρ, E, (f ρ).mono (fun d k x z1 H1 st1 fc1 r1 => ?_) h⟩
  refine ⟨z0, H0, z1, ρ, E.step st1, (fl ρ).mono (fun l k2 z2 H2 st2 fc2 => ?_) k⟩
  refine ⟨z0, H0, z2, ρ, (E.step st1).step st2, (fh ρ).mono (fun u k3 z3 H3 st3 fc3 => ?_) k2⟩
  have r3 := (r1.step st2).step st3
  have st13 := (st1.trans st2).trans st3
  have k3 : (D.slice d l u).run (kV X.K X.mg z H Q) := k3
  cases d with
  | lst xs =>
    obtain ⟨a, vs, rfl, q, r⟩ := r3.lst st3.ok
    exact .inl ⟨a, vs, rfl, .of q, fun p hp fc4 => kV_new (d := .lst (cutL xs l u)) k3 st13 fc4 hp (.lst Z.put_at ((r.cut _ _).le (Z.le_put (st3.ok.free hp))))⟩
  | tup xs =>
    obtain ⟨a, vs, e, q, r⟩ := r3.tup st3.ok
    refine .inr ⟨a, vs, e, .of q, fun hw _ => ?_, fun _ p hp fc4 => kV_new (d := .tup (cutL xs l u)) k3 st13 fc4 hp (.tup Z.put_at ((r.cut _ _).le (Z.le_put (st3.ok.free hp))))⟩
    have k3 : kV X.K X.mg z H Q (.tup (cutL xs l u)) := k3
    have e2 : cutL xs l u = xs := by
      unfold cutL
      rw [← r.length, hw.1, hw.2, r.length]
      simp
    rw [e2] at k3
    rcases r3 with r3 | ⟨_, _, _, _, _, c⟩
    · rw [e] at r3
      exact k3 _ z3 H3 st13 fc3 r3
    · cases c
  | _ => exact (show False from k3).elim
def D.rev : D → W D
  | .lst xs => W.pure (.lst xs.reverse)
  | _ => W.fail
theorem v_rev {k : Nat} {p1 p3 : Pos} (ha : EvB M S a f) : EvV M S (.Subscript a (.Slice none none (some (.UnaryOp .USub (.Constant (.int 1) k p1) p2)) p3) pos) fun ρ => (f ρ).bind D.rev := fun X G => by
  refine (pe_revL (ha X G)).impW fun σ H Q fc ⟨z0, H0, z, ρ, E, h⟩ => ?_
  refine ⟨z0, H0, z, ρ, E, (f ρ).mono (fun d k x z1 H1 st1 fc1 r1 => ?_) h⟩
  unfold D.rev at k
  split at k
  · obtain ⟨a, vs, rfl, q, r⟩ := r1.lst st1.ok
    exact ⟨a, vs, rfl, .of q, fun p hp fc4 => kV_new k st1 fc4 hp (.lst Z.put_at (r.reverse.le (Z.le_put (st1.ok.free hp))))⟩
  · exact (show False from k).elim
def D.neg : D → W D
  | .int i => W.pure (.int (-i))
  | _ => W.fail
theorem v_neg (ha : EvB M S a f) : EvV M S (.UnaryOp .USub a pos) fun ρ => (f ρ).bind D.neg := fun X G => by
  refine (pe_un un_neg (ha X G)).impW fun σ H Q fc ⟨z0, H0, z, ρ, E, h⟩ => ?_
  refine ⟨z0, H0, z, ρ, E, (f ρ).mono (fun d k x z1 H1 st1 fc1 r1 => ?_) h⟩
  unfold D.neg at k
  split at k
  · exact ⟨_, r1.int, fun _ => k _ z1 H1 st1 fc1 (.int _)⟩
  · exact (show False from k).elim

/-! ### calls of the module's own defs -/
variable {fs : Env → W (List D)} {x : Str} {p : Pos} {Φ : List D → W D}
theorem v_call (j : Nat) (ha : EvAV M S (e :: es) fs) (hT : M.T[j]? = some (x, Φ) := by rfl) (hg : S.sc.names.lookup x = some .globalImplicit := by kernel_rfl) (hd : (x == ("__debug__" : Str)) = false := by kernel_rfl)
    (he : ∀ env, starEach (e :: es) env = (false, eval e env) :: starEach es env := by intro _; kernel_rfl) (hpl : ∀ env, (backTo pos (starEach es env)).any (·.1) = false := by intro _; kernel_rfl) :
    EvV M S (.Call (.Name x p) (e :: es) [] pos) fun ρ => (fs ρ).bind Φ := fun X G => by
  obtain ⟨f, hm, hk, F⟩ := G.tab.at_ x Φ (List.mem_of_getElem? hT)
  have core : PE X (.Call (.Name x p) (e :: es) [] pos) (fun σ H Q => tAv X.K X.mg S.mt fs σ H fun vs H1 => spW X.K X.mg Φ vs H1 Q fun _ _ _ => False) := by
    refine ⟨fun pins s σ H Q I h => ?_⟩
    refine wpAny_Call_Name_kw (ld_glob I (gl_of G hg) hm ?_ hd)
    refine PySem.W.callWith_K (h₀ := X.base) I.ok.mod.kin hk (thn ((ha X G).run pos pins s σ H _ I h) fun us s1 ⟨vs, H1, I1, r, q⟩ => ⟨I1.kIn, ?_⟩) (he _) (hpl _)
    exact wpAny_call (run_fnR F G.room pass0 I1 r q)
  refine core.impW fun σ H Q fc ⟨z0, H0, z, ρ, E, h⟩ => ⟨z0, H0, z, ρ, E, (fs ρ).mono (fun ds k vs z1 H1 st1 fc1 r1 => ?_) h⟩
  exact ⟨z1, ds, st1.ok, r1, (Φ ds).mono (fun d k v z2 H2 st2 fc2 r2 _ => k v z2 H2 (st1.trans st2) fc2 r2) k⟩
/-- a def of the table, called through a slot -/
def Mo.fnOf (M : Mo) : D → W (List D → W D)
  | .fn x => W.some? (M.T.lookup x)
  | _ => W.fail
theorem v_callV (i : Nat) (ha : EvAV M S (e :: es) fs) (hN : S.N[i]? = some x := by kernel_rfl) (hv : visC S.sc x = true := by kernel_rfl) (hi : S.mt.contains i = false := by kernel_rfl)
    (hd : (x == ("__debug__" : Str)) = false := by kernel_rfl) (hcd : (x == ("__classdict__" : Str)) = false := by kernel_rfl)
    (he : ∀ env, starEach (e :: es) env = (false, eval e env) :: starEach es env := by intro _; kernel_rfl) (hpl : ∀ env, (backTo pos (starEach es env)).any (·.1) = false := by intro _; kernel_rfl) :
    EvV M S (.Call (.Name x p) (e :: es) [] pos) fun ρ => (getV ρ i).bind fun d => (M.fnOf d).bind fun Φ => (fs ρ).bind Φ := fun X G => by
  have core : PE X (.Call (.Name x p) (e :: es) [] pos) (fun σ H Q => ∃ f Φ, σ[i]? = some (some (.ref f)) ∧ PySem.W.keepIn X.K (.ref f) = true ∧ FnR X.prog X.w X.K X.mg X.base CX0 M.lv f (spW X.K X.mg Φ) ∧ tAv X.K X.mg S.mt fs σ H fun vs H1 => spW X.K X.mg Φ vs H1 Q fun _ _ _ => False) := by
    refine ⟨fun pins s σ H Q I ⟨f, Φ, hs, hk, F, h⟩ => ?_⟩
    refine wpAny_Call_Name_kw (thn ((pe_var (pos := p) (i := i) (by rw [G.N]; exact hN) (by rw [G.sc]; exact vis_of hv) hd hcd).run pins s σ H (fun v H1 => v = .ref f ∧ H1 = H) I ⟨.ref f, hs, rfl, rfl⟩) fun u s1 ⟨v, H1, I1, r1, ev, eH⟩ => ?_)
    subst ev
    rw [eH] at I1
    cases r1
    refine PySem.W.callWith_K (h₀ := X.base) I.ok.mod.kin hk (thn ((ha X G).run pos pins s1 σ H _ I1 h) fun us s2 ⟨vs, H2, I2, r, q⟩ => ⟨I2.kIn, ?_⟩) (he _) (hpl _)
    exact wpAny_call (run_fnR F G.room pass0 I2 r q)
  refine core.impW fun σ H Q fc ⟨z0, H0, z, ρ, E, h⟩ => ?_
  obtain ⟨d, e1, k⟩ := getV_run h
  obtain ⟨v, e2, r⟩ := E.val i d (fun m => by rw [List.contains_iff_mem.mpr m] at hi; cases hi) e1
  cases d with
  | fn x =>
    cases r with
    | fn hm hk =>
      rename_i f
      obtain ⟨Φ, q, k⟩ := some_run (show ((W.some? (M.T.lookup x)).bind fun Φ => (fs ρ).bind Φ).run (kV X.K X.mg z H Q) from k)
      obtain ⟨f', hm', hk', F⟩ := G.tab.at_ x Φ (PySem.mem_of_lookup q)
      rw [hm] at hm'
      cases hm'
      refine ⟨f, Φ, e2, hk, F, z0, H0, z, ρ, E, (fs ρ).mono (fun ds k vs z1 H1 st1 fc1 r1 => ?_) k⟩
      exact ⟨z1, ds, st1.ok, r1, (Φ ds).mono (fun d k v z2 H2 st2 fc2 r2 _ => k v z2 H2 (st1.trans st2) fc2 r2) k⟩
  | _ => exact (show False from k).elim
end
end PW

set_option Elab.async false
set_option linter.all false
set_option maxRecDepth 100000
set_option maxHeartbeats 1000000
namespace PW
open PySem PySem.Spec PyProof.Rows L2

/-! ### own objects: made, changed, given away -/
section
variable {mt : List Nat} {K : PySem.W.Frag} {mg : Str → Option Value} {z0 z z' : Z} {H0 H H' : Hp} {σ : Sg} {ρ : Env}
/-- a new object into a slot of own objects -/
theorem EnvR.setOwn (E : EnvR mt K mg z0 H0 z H σ ρ) (st : Step K z H z' H') {i : Nat} {a : Addr} {o : HO} {d : D} (hi : i ∈ mt) (hn : H a = none) (hf : z'.f a = none) (hβ : ¬ z'.β a) (ho : H' a = some o) (c : Cont K mg z' o d) :
    EnvR mt K mg z0 H0 z' H' (σ.set i (some (.ref a))) (ρ.set i (some d)) := by
  have E1 := E.step st
  have na := E.nown hn
  refine ⟨E1.st, by rw [List.length_set, List.length_set]; exact E1.len, fun j e hj q => ?_, fun j e hj q => ?_, fun j k d1 e1 hj hk hjk q q' => ?_⟩
  · have h : i ≠ j := fun x => hj (x ▸ hi)
    rw [List.getElem?_set_ne h] at q ⊢
    exact E1.val j e hj q
  · by_cases h : i = j
    · subst h
      by_cases hl : i < ρ.length
      · rw [List.getElem?_set_self hl] at q
        cases q
        exact ⟨_, List.getElem?_set_self (by rw [← E.len]; exact hl), a, o, rfl, hf, E.st.was hn, hβ, ho, c⟩
      · rw [List.getElem?_eq_none (by rw [List.length_set]; omega)] at q
        cases q
    · rw [List.getElem?_set_ne h] at q ⊢
      exact E1.own j e hj q
  · by_cases h1 : i = j
    · subst h1
      rw [List.getElem?_set_ne hjk] at q' ⊢
      by_cases hl : i < σ.length
      · rw [List.getElem?_set_self hl]
        exact fun e => na k e1 hk q' e.symm
      · have e0 : (σ.set i (some (V.ref a)))[i]? = none := List.getElem?_eq_none (by rw [List.length_set]; omega)
        rw [e0]
        intro e
        obtain ⟨v, e2, _⟩ := E.own k e1 hk q'
        rw [e2] at e
        cases e
    · rw [List.getElem?_set_ne h1] at q ⊢
      by_cases h2 : i = k
      · subst h2
        by_cases hl : i < σ.length
        · rw [List.getElem?_set_self hl]
          exact na j d1 hj q
        · have e0 : (σ.set i (some (V.ref a)))[i]? = none := List.getElem?_eq_none (by rw [List.length_set]; omega)
          rw [e0]
          intro e
          obtain ⟨v, e2, _⟩ := E.own j d1 hj q
          rw [e2] at e
          cases e
      · rw [List.getElem?_set_ne h2] at q' ⊢
        exact E.apart j k d1 e1 hj hk hjk q q'
/-- an own object changes -/
theorem EnvR.chg (E : EnvR mt K mg z0 H0 z H σ ρ) {i : Nat} {a : Addr} {o : HO} {d d' : D} (hi : i ∈ mt) (hd : ρ[i]? = some (some d)) (hs : σ[i]? = some (some (.ref a))) (c : Cont K mg z o d') : EnvR mt K mg z0 H0 z (upd H a o) σ (ρ.set i (some d')) := by
  obtain ⟨v, e2, a', o1, rfl, f0, h0, b, q, c1⟩ := E.own i d hi hd
  rw [hs] at e2
  cases e2
  have hl : i < ρ.length := (List.getElem?_eq_some_iff.mp hd).1
  refine ⟨E.st.other h0 f0 b, by rw [List.length_set]; exact E.len, fun j e hj q => ?_, fun j e hj q1 => ?_, fun j k d1 e1 hj hk hjk q q' => ?_⟩
  · have h : i ≠ j := fun x => hj (x ▸ hi)
    rw [List.getElem?_set_ne h] at q
    exact E.val j e hj q
  · by_cases h : i = j
    · subst h
      rw [List.getElem?_set_self hl] at q1
      cases q1
      exact ⟨_, hs, a, o, rfl, f0, h0, b, upd_same, c⟩
    · rw [List.getElem?_set_ne h] at q1
      obtain ⟨v, e2, a2, o2, rfl, g0, k0, b2, q2, c2⟩ := E.own j e hj q1
      refine ⟨_, e2, a2, o2, rfl, g0, k0, b2, ?_, c2⟩
      rw [upd_ne (fun x => E.apart i j d e hi hj h hd q1 (by rw [hs, e2, x]))]
      exact q2
  · have h1 : ∃ d, ρ[j]? = some (some d) := by
      by_cases h : i = j
      · subst h; exact ⟨d, hd⟩
      · rw [List.getElem?_set_ne h] at q; exact ⟨_, q⟩
    have h2 : ∃ d, ρ[k]? = some (some d) := by
      by_cases h : i = k
      · subst h; exact ⟨d, hd⟩
      · rw [List.getElem?_set_ne h] at q'; exact ⟨_, q'⟩
    obtain ⟨d2, h1⟩ := h1
    obtain ⟨d3, h2⟩ := h2
    exact E.apart j k d2 d3 hj hk hjk h1 h2
/-- an own object is given away: known from now on -/
theorem EnvR.give (E : EnvR mt K mg z0 H0 z H σ ρ) {i : Nat} {d : D} (hi : i ∈ mt) (hd : ρ[i]? = some (some d)) : ∃ v z1, σ[i]? = some (some v) ∧ Z.le z z1 ∧ EnvR mt K mg z0 H0 z1 H σ (ρ.set i none) ∧ Rp K mg z1 v d := by
  obtain ⟨v, e2, a, o, rfl, f0, h0, b, q, c⟩ := E.own i d hi hd
  have ok := E.ok.freeze f0 b q
  have le : Z.le z (z.put a o) := Z.le_put f0
  have hne : ∀ {j : Nat} {e : D}, (ρ.set i none)[j]? = some (some e) → j ≠ i ∧ ρ[j]? = some (some e) := fun {j e} q => by
    by_cases h : i = j
    · subst h
      by_cases hl : i < ρ.length
      · rw [List.getElem?_set_self hl] at q; cases q
      · rw [List.getElem?_eq_none (by rw [List.length_set]; omega)] at q; cases q
    · rw [List.getElem?_set_ne h] at q
      exact ⟨fun x => h x.symm, q⟩
  have st : Step K z0 H0 (z.put a o) H := ⟨E.st.le.trans le, ok, E.st.keep, fun x o' h1 h2 h3 => by
    show upd z.f a o x = none
    rw [upd_ne (fun x' => by rw [x', h0] at h2; cases h2)]
    exact E.st.new x o' h1 h2 h3, fun x e => E.st.βn x e⟩
  refine ⟨_, z.put a o, e2, le, ⟨st, by rw [List.length_set]; exact E.len, fun j e hj q1 => ?_, fun j e hj q1 => ?_, fun j k d1 e1 hj hk hjk q1 q2 => E.apart j k d1 e1 hj hk hjk (hne q1).2 (hne q2).2⟩, (c.le le).rp Z.put_at⟩
  · obtain ⟨v, e3, r⟩ := E.val j e hj (hne q1).2
    exact ⟨v, e3, r.le le⟩
  · obtain ⟨v, e3, a2, o2, rfl, g0, k0, b2, q2, c2⟩ := E.own j e hj (hne q1).2
    refine ⟨_, e3, a2, o2, rfl, ?_, k0, b2, q2, c2.le le⟩
    show upd z.f a o a2 = none
    rw [upd_ne (fun x => E.apart i j d e hi hj (fun y => (hne q1).1 y.symm) hd (hne q1).2 (by rw [e2, e3, x]))]
    exact g0
end

/-! ### statements -/
def _root_.L2.Ends.f (K : PySem.W.Frag) (D : Ends) : Ends := ⟨fun σ H => Fct K H → D.nx σ H, fun v H => Fct K H → D.rt v H, fun σ H => Fct K H → D.bk σ H, fun σ H => Fct K H → D.ct σ H⟩
theorem sp_fct {X : Cx} {pins : List (Addr × Obj)} {D : Ends} {f : Flow} {s' : Shared} (h : SP X pins (D.f X.K) f s') : SP X pins D f s' := by
  cases f with
  | next => obtain ⟨σ', H', I, q⟩ := h; exact ⟨σ', H', I, q (fct_of I)⟩
  | brk => obtain ⟨σ', H', I, q⟩ := h; exact ⟨σ', H', I, q (fct_of I)⟩
  | cont => obtain ⟨σ', H', I, q⟩ := h; exact ⟨σ', H', I, q (fct_of I)⟩
  | ret u => obtain ⟨v, σ', H', I, r, q⟩ := h; exact ⟨v, σ', H', I, r, q (fct_of I)⟩
theorem _root_.L2.PS.impW {X : Cx} {st : Stmt} {t t' : TS} (h : PS X st t) (hi : ∀ D σ H, Fct X.K H → t' D σ H → t (D.f X.K) σ H) : PS X st t' :=
  ⟨fun pins s σ H D I hw => thn (h.run pins s σ H _ I (hi D σ H (fct_of I) hw)) fun _ _ q => sp_fct q⟩
section
variable (K : PySem.W.Frag) (mg : Str → Option Value) (mt : List Nat)
def kS (z0 : Z) (H0 : Hp) (z : Z) (D : Ends) : Out → Prop
  | .nx ρ => ∀ σ z' H, Z.le z z' → EnvR mt K mg z0 H0 z' H σ ρ → D.nx σ H
  | .bk ρ => ∀ σ z' H, Z.le z z' → EnvR mt K mg z0 H0 z' H σ ρ → D.bk σ H
  | .ct ρ => ∀ σ z' H, Z.le z z' → EnvR mt K mg z0 H0 z' H σ ρ → D.ct σ H
  | .rt d => ∀ v z H, Step K z0 H0 z H → Fct K H → Rp K mg z v d → D.rt v H
def tS (w : Env → W Out) : TS := fun D σ H => ∃ z0 H0 z ρ, EnvR mt K mg z0 H0 z H σ ρ ∧ (w ρ).run (kS K mg mt z0 H0 z D)
end
theorem kS.le {K : PySem.W.Frag} {mg : Str → Option Value} {mt : List Nat} {z0 z z1 : Z} {H0 : Hp} {D : Ends} {o : Out} (l : Z.le z z1) (k : kS K mg mt z0 H0 z D o) : kS K mg mt z0 H0 z1 D o := by
  cases o with
  | nx ρ => exact fun σ z' H l' => k σ z' H (l.trans l')
  | bk ρ => exact fun σ z' H l' => k σ z' H (l.trans l')
  | ct ρ => exact fun σ z' H l' => k σ z' H (l.trans l')
  | rt d => exact k
def EvS (M : Mo) (S : Fix) (st : Stmt) (w : Env → W Out) : Prop := ∀ X, Good M S X → PS X st (tS X.K X.mg S.mt w)
def EvSs (M : Mo) (S : Fix) (sts : List Stmt) (w : Env → W Out) : Prop := ∀ X, Good M S X → PSs X sts (tS X.K X.mg S.mt w)
/-- one after the other -/
def seqW (a b : Env → W Out) : Env → W Out := fun ρ => (a ρ).bind fun o => match o with
  | .nx ρ' => b ρ'
  | .rt d => W.pure (.rt d)
  | .bk ρ' => W.pure (.bk ρ')
  | .ct ρ' => W.pure (.ct ρ')
section
variable {M : Mo} {S : Fix} {st : Stmt} {sts : List Stmt} {a b w : Env → W Out} {pos : Pos} {e c : Expr} {f g : Env → W D} {p : Env → W Bool}
theorem ss_nil : EvSs M S [] fun ρ => W.pure (.nx ρ) := fun X G => ⟨fun pins s σ H D I ⟨z0, H0, z, ρ, E, h⟩ => pss_nil.run pins s σ H D I (h σ z H (Z.le.refl z) E)⟩
theorem ss_one (h : EvS M S st w) : EvSs M S [st] w := fun X G => pss_one (h X G)
theorem ss_cons (h : EvS M S st a) (hs : EvSs M S sts b) : EvSs M S (st :: sts) (seqW a b) := fun X G => by
  have core := pss_cons (h X G) (hs X G)
  refine ⟨fun pins s σ H D I ⟨z0, H0, z, ρ, E, hw⟩ => core.run pins s σ H D I ⟨z0, H0, z, ρ, E, (a ρ).mono (fun o k => ?_) hw⟩⟩
  cases o with
  | nx ρ' => exact fun σ z' H l E => ⟨z0, H0, z', ρ', E, (b ρ').mono (fun o k => k.le l) k⟩
  | rt d => exact k
  | bk ρ' => exact k
  | ct ρ' => exact k
theorem s_never : EvS M S st fun _ => W.fail := fun X G => ⟨fun _ _ _ _ _ _ ⟨_, _, _, _, _, h⟩ => (show False from h).elim⟩
theorem ss_never : EvSs M S sts fun _ => W.fail := fun X G => ⟨fun _ _ _ _ _ _ ⟨_, _, _, _, _, h⟩ => (show False from h).elim⟩
theorem s_pass : EvS M S (.Pass pos) fun ρ => W.pure (.nx ρ) := fun X G => ⟨fun pins s σ H D I ⟨z0, H0, z, ρ, E, h⟩ => ps_pass.run pins s σ H D I (h σ z H (Z.le.refl z) E)⟩
theorem s_break : EvS M S (.Break pos) fun ρ => W.pure (.bk ρ) := fun X G => ⟨fun pins s σ H D I ⟨z0, H0, z, ρ, E, h⟩ => ps_break.run pins s σ H D I (h σ z H (Z.le.refl z) E)⟩
theorem s_cont : EvS M S (.Continue pos) fun ρ => W.pure (.ct ρ) := fun X G => ⟨fun pins s σ H D I ⟨z0, H0, z, ρ, E, h⟩ => ps_continue.run pins s σ H D I (h σ z H (Z.le.refl z) E)⟩
theorem s_doc {x : Str} {j : Nat} {pos' : Pos} : EvS M S (.Expr (.Constant (.str x) j pos) pos') fun ρ => W.pure (.nx ρ) := fun X G => ⟨fun pins s σ H D I ⟨z0, H0, z, ρ, E, h⟩ => ps_doc.run pins s σ H D I (h σ z H (Z.le.refl z) E)⟩
theorem s_expr (he : EvV M S e f) (hs : ∀ env, swapsWith e none pos.line env = pure false := by intro _; kernel_rfl) : EvS M S (.Expr e pos) fun ρ => (f ρ).bind fun _ => W.pure (.nx ρ) := fun X G =>
  (ps_expr (he X G) (hs _)).impW fun D σ H fc ⟨z0, H0, z, ρ, E, h⟩ => ⟨z0, H0, z, ρ, E, (f ρ).mono (fun d k v z1 H1 st1 fc1 r1 _ => k σ z1 H1 st1.le (E.step st1)) h⟩
theorem s_ret (he : EvV M S e f) : EvS M S (.Return (some e) pos) fun ρ => (f ρ).bind fun d => W.pure (.rt d) := fun X G =>
  (ps_ret (he X G)).impW fun D σ H fc ⟨z0, H0, z, ρ, E, h⟩ => ⟨z0, H0, z, ρ, E, (f ρ).mono (fun d k v z1 H1 st1 fc1 r1 _ => k v z1 H1 (E.st.trans st1) fc1 r1) h⟩
theorem s_retN : EvS M S (.Return none pos) fun ρ => W.pure (.rt .non) := fun X G =>
  (ps_retN (X := X)).impW fun D σ H fc ⟨z0, H0, z, ρ, E, h⟩ => fun _ => h .non z H E.st fc .non
/-- return x, x an own object -/
theorem s_retM (i : Nat) {x : Str} {pos' : Pos} (hN : S.N[i]? = some x := by kernel_rfl) (hv : visC S.sc x = true := by kernel_rfl) (hi : S.mt.contains i = true := by kernel_rfl)
    (hd : (x == ("__debug__" : Str)) = false := by kernel_rfl) (hcd : (x == ("__classdict__" : Str)) = false := by kernel_rfl) : EvS M S (.Return (some (.Name x pos')) pos) fun ρ => (getV ρ i).bind fun d => W.pure (.rt d) := fun X G => by
  refine (ps_ret (pe_var (i := i) (by rw [G.N]; exact hN) (by rw [G.sc]; exact vis_of hv) hd hcd)).impW fun D σ H fc ⟨z0, H0, z, ρ, E, h⟩ => ?_
  obtain ⟨d, e, k⟩ := getV_run h
  obtain ⟨v, z1, e2, l1, E1, r⟩ := E.give (List.contains_iff_mem.mp hi) e
  exact ⟨v, e2, fun _ => k v z1 H E1.st fc r⟩
theorem s_if {as bs : List Stmt} (hc : EvT M S c p) (ha : EvSs M S as a) (hb : EvSs M S bs b) : EvS M S (.If c as bs pos) fun ρ => (p ρ).bind fun k => if k = true then a ρ else b ρ := fun X G => by
  have core := ps_if (pos := pos) (hc X G) (ha X G) (hb X G)
  refine ⟨fun pins s σ H D I ⟨z0, H0, z, ρ, E, h⟩ => core.run pins s σ H D I ⟨z0, H0, z, ρ, E, (p ρ).mono (fun d k z1 H1 st1 fc1 => ?_) h⟩⟩
  cases d with
  | true =>
    rw [if_pos rfl]
    exact ⟨z0, H0, z1, ρ, E.step st1, (a ρ).mono (fun o k => k.le st1.le) k⟩
  | false =>
    rw [if_neg Bool.false_ne_true]
    exact ⟨z0, H0, z1, ρ, E.step st1, (b ρ).mono (fun o k => k.le st1.le) k⟩
/-- x = e, a value -/
theorem s_set (i : Nat) {x : Str} {pos' : Pos} (he : EvV M S e f) (hN : S.N[i]? = some x := by kernel_rfl) (hl : locC S.sc x = true := by kernel_rfl) (hf : fnC S x = true := by kernel_rfl)
    (hi : S.mt.contains i = false := by kernel_rfl) (hs : ∀ env : PySem.Env, env.scope = S.sc → swapsWith e (some (.Name x pos')) pos.line env = pure false := by intro env he; cases env; cases he; kernel_rfl) : EvS M S (.Assign [.Name x pos'] e pos) fun ρ => (f ρ).bind fun d => W.pure (.nx (ρ.set i (some d))) := fun X G => by
  refine (ps_set (i := i) (by rw [G.N]; exact G.nd) (by rw [G.N]; exact hN) (by rw [G.sc]; exact loc_of hl) (he X G) (hs _ G.sc) (by rw [G.fn, G.sc]; exact fnC_of hf)).impW fun D σ H fc ⟨z0, H0, z, ρ, E, h⟩ => ?_
  have hm : i ∉ S.mt := fun m => by rw [List.contains_iff_mem.mpr m] at hi; cases hi
  exact ⟨z0, H0, z, ρ, E, (f ρ).mono (fun d k v z1 H1 st1 fc1 r1 => fun _ => k _ z1 H1 st1.le ((E.step st1).set hm r1)) h⟩
/-- x = e, an object of the def's own -/
theorem s_setF (i : Nat) {x : Str} {pos' : Pos} (he : EvF M S e f) (hN : S.N[i]? = some x := by kernel_rfl) (hl : locC S.sc x = true := by kernel_rfl) (hf : fnC S x = true := by kernel_rfl)
    (hi : S.mt.contains i = true := by kernel_rfl) (hs : ∀ env : PySem.Env, env.scope = S.sc → swapsWith e (some (.Name x pos')) pos.line env = pure false := by intro env he; cases env; cases he; kernel_rfl) : EvS M S (.Assign [.Name x pos'] e pos) fun ρ => (f ρ).bind fun d => W.pure (.nx (ρ.set i (some d))) := fun X G => by
  refine (ps_set (i := i) (by rw [G.N]; exact G.nd) (by rw [G.N]; exact hN) (by rw [G.sc]; exact loc_of hl) (he X G) (hs _ G.sc) (by rw [G.fn, G.sc]; exact fnC_of hf)).impW fun D σ H fc ⟨z0, H0, z, ρ, E, h⟩ => ?_
  exact ⟨z0, H0, z, ρ, E, (f ρ).mono (fun d k a o z1 H1 st1 fc1 hn hf hβ ho c => fun _ => k _ z1 H1 st1.le (E.setOwn st1 (List.contains_iff_mem.mp hi) hn hf hβ ho c)) h⟩
/-- x = y, y an own object that is given away -/
theorem s_move (i j : Nat) {x y : Str} {pos' pos2 : Pos} (hN : S.N[i]? = some x := by kernel_rfl) (hN2 : S.N[j]? = some y := by kernel_rfl) (hl : locC S.sc x = true := by kernel_rfl) (hf : fnC S x = true := by kernel_rfl)
    (hv : visC S.sc y = true := by kernel_rfl) (hi : S.mt.contains i = false := by kernel_rfl) (hj : S.mt.contains j = true := by kernel_rfl)
    (hd : (y == ("__debug__" : Str)) = false := by kernel_rfl) (hcd : (y == ("__classdict__" : Str)) = false := by kernel_rfl) (hs : ∀ env : PySem.Env, env.scope = S.sc → swapsWith (.Name y pos2) (some (.Name x pos')) pos.line env = pure false := by intro env he; cases env; cases he; kernel_rfl) :
    EvS M S (.Assign [.Name x pos'] (.Name y pos2) pos) fun ρ => (getV ρ j).bind fun d => W.pure (.nx ((ρ.set j none).set i (some d))) := fun X G => by
  refine (ps_set (i := i) (by rw [G.N]; exact G.nd) (by rw [G.N]; exact hN) (by rw [G.sc]; exact loc_of hl) (pe_var (i := j) (by rw [G.N]; exact hN2) (by rw [G.sc]; exact vis_of hv) hd hcd) (hs _ G.sc) (by rw [G.fn, G.sc]; exact fnC_of hf)).impW fun D σ H fc ⟨z0, H0, z, ρ, E, h⟩ => ?_
  obtain ⟨d, e, k⟩ := getV_run h
  obtain ⟨v, z1, e2, l1, E1, r⟩ := E.give (List.contains_iff_mem.mp hj) e
  have hm : i ∉ S.mt := fun m => by rw [List.contains_iff_mem.mpr m] at hi; cases hi
  exact ⟨v, e2, fun _ => k _ z1 H l1 (E1.set hm r)⟩
/-- target = e -/
theorem s_asg {tg : Expr} {t : Tgt} (he : EvV M S e f) (hg : EvG M S tg t) (hs : ∀ env : PySem.Env, env.scope = S.sc → swapsWithSole [tg] e pos.line env = pure false := by intro env he; cases env; cases he; kernel_rfl) (hw : ∀ env : PySem.Env, env.scope = S.sc → swappedStores [tg] e env = pure none := by intro env he; cases env; cases he; kernel_rfl)
    (h1 : ∀ env, (assignEach [tg] env).map (·.2) = [assign tg env] := by intro _; kernel_rfl) : EvS M S (.Assign [tg] e pos) fun ρ => (f ρ).bind fun d => (t.set d ρ).bind fun ρ' => W.pure (.nx ρ') := fun X G => by
  refine (ps_asg (he X G) (hg X G) (hs _ G.sc) (hw _ G.sc) (h1 _)).impW fun D σ H fc ⟨z0, H0, z, ρ, E, h⟩ => ?_
  exact ⟨z0, H0, z, ρ, E, (f ρ).mono (fun d k v z1 H1 st1 fc1 r1 => ⟨z0, H0, z1, ρ, d, E.step st1, r1, (t.set d ρ).mono (fun ρ' k2 σ' E' _ _ => fun _ => k2 σ' z1 H1 st1.le E') k⟩) h⟩
/-- a, b = e, e' with plain locals -/
theorem s_par (i j : Nat) {x y : Str} {e1 e2 : Expr} {px py pt : Pos} {kt k2 : Nat} {pt2 : Pos} (h1 : EvV M S e1 f) (h2 : EvV M S e2 g) (hN : S.N[i]? = some x := by kernel_rfl) (hN2 : S.N[j]? = some y := by kernel_rfl) (hij : i ≠ j := by decide)
    (hx : S.sc.names.lookup x = some .local := by kernel_rfl) (hy : S.sc.names.lookup y = some .local := by kernel_rfl) (hi : S.mt.contains i = false := by kernel_rfl) (hj : S.mt.contains j = false := by kernel_rfl)
    (ha : ∀ env, starEach [e1, e2] env = (false, eval e1 env) :: starEach [e2] env := by intro _; kernel_rfl) (hb : ∀ env, starEach [e2] env = (false, eval e2 env) :: starEach [] env := by intro _; kernel_rfl)
    (hw : ∀ env : PySem.Env, env.scope = S.sc → swappedStores [.Tuple [.Name x px, .Name y py] kt pt] (.Tuple [e1, e2] k2 pt2) env = pure (some [x, y]) := by intro env he; cases env; cases he; kernel_rfl) (hs : ∀ env : PySem.Env, env.scope = S.sc → swapsWithSole [.Tuple [.Name x px, .Name y py] kt pt] (.Tuple [e1, e2] k2 pt2) pos.line env = pure false := by intro env he; cases env; cases he; kernel_rfl) :
    EvS M S (.Assign [.Tuple [.Name x px, .Name y py] kt pt] (.Tuple [e1, e2] k2 pt2) pos) fun ρ => (f ρ).bind fun d => (g ρ).bind fun d' => W.pure (.nx ((ρ.set i (some d)).set j (some d'))) := fun X G => by
  refine (ps_par (i := i) (j := j) G.calm (by rw [G.N]; exact G.nd) (by rw [G.N]; exact hN) (by rw [G.N]; exact hN2) hij (by rw [G.sc]; exact hx) (by rw [G.sc]; exact hy) (pa_cons (h1 X G) (pa_cons (h2 X G) pa_nil (hb _)) (ha _)) (hw _ G.sc) (hs _ G.sc)).impW fun D σ H fc ⟨z0, H0, z, ρ, E, h⟩ => ?_
  have hm : i ∉ S.mt := fun m => by rw [List.contains_iff_mem.mpr m] at hi; cases hi
  have hm2 : j ∉ S.mt := fun m => by rw [List.contains_iff_mem.mpr m] at hj; cases hj
  refine ⟨z0, H0, z, ρ, E, (f ρ).mono (fun d k v z1 H1 st1 fc1 r1 => ?_) h⟩
  refine ⟨z0, H0, z1, ρ, E.step st1, (g ρ).mono (fun d' k v' z2 H2 st2 fc2 r2 => ?_) k⟩
  exact ⟨v, v', rfl, fun _ => k _ z2 H2 (st1.le.trans st2.le) ((((E.step st1).step st2).set hm (r1.le st2.le)).set hm2 r2)⟩
/-- .. the first an own object -/
theorem s_parF (i j : Nat) {x y : Str} {e1 e2 : Expr} {px py pt : Pos} {kt k2 : Nat} {pt2 : Pos} (h1 : EvF M S e1 f) (h2 : EvV M S e2 g) (hN : S.N[i]? = some x := by kernel_rfl) (hN2 : S.N[j]? = some y := by kernel_rfl) (hij : i ≠ j := by decide)
    (hx : S.sc.names.lookup x = some .local := by kernel_rfl) (hy : S.sc.names.lookup y = some .local := by kernel_rfl) (hi : S.mt.contains i = true := by kernel_rfl) (hj : S.mt.contains j = false := by kernel_rfl)
    (ha : ∀ env, starEach [e1, e2] env = (false, eval e1 env) :: starEach [e2] env := by intro _; kernel_rfl) (hb : ∀ env, starEach [e2] env = (false, eval e2 env) :: starEach [] env := by intro _; kernel_rfl)
    (hw : ∀ env : PySem.Env, env.scope = S.sc → swappedStores [.Tuple [.Name x px, .Name y py] kt pt] (.Tuple [e1, e2] k2 pt2) env = pure (some [x, y]) := by intro env he; cases env; cases he; kernel_rfl) (hs : ∀ env : PySem.Env, env.scope = S.sc → swapsWithSole [.Tuple [.Name x px, .Name y py] kt pt] (.Tuple [e1, e2] k2 pt2) pos.line env = pure false := by intro env he; cases env; cases he; kernel_rfl) :
    EvS M S (.Assign [.Tuple [.Name x px, .Name y py] kt pt] (.Tuple [e1, e2] k2 pt2) pos) fun ρ => (f ρ).bind fun d => (g ρ).bind fun d' => W.pure (.nx ((ρ.set i (some d)).set j (some d'))) := fun X G => by
  refine (ps_par (i := i) (j := j) G.calm (by rw [G.N]; exact G.nd) (by rw [G.N]; exact hN) (by rw [G.N]; exact hN2) hij (by rw [G.sc]; exact hx) (by rw [G.sc]; exact hy) (pa_cons (h1 X G) (pa_cons (h2 X G) pa_nil (hb _)) (ha _)) (hw _ G.sc) (hs _ G.sc)).impW fun D σ H fc ⟨z0, H0, z, ρ, E, h⟩ => ?_
  have hm2 : j ∉ S.mt := fun m => by rw [List.contains_iff_mem.mpr m] at hj; cases hj
  refine ⟨z0, H0, z, ρ, E, (f ρ).mono (fun d k a o z1 H1 st1 fc1 hn hf hβ ho c => ?_) h⟩
  refine ⟨z0, H0, z1, ρ, E.step st1, (g ρ).mono (fun d' k v' z2 H2 st2 fc2 r2 => ?_) k⟩
  have E1 := (E.setOwn st1 (List.contains_iff_mem.mp hi) hn hf hβ ho c).step st2
  exact ⟨_, v', rfl, fun _ => k _ z2 H2 (st1.le.trans st2.le) (E1.set hm2 r2)⟩
theorem s_par3 (i j l : Nat) {x y u : Str} {e1 e2 e3 : Expr} {g3 : Env → W D} {px py pu pt : Pos} {kt k2 : Nat} {pt2 : Pos} (h1 : EvV M S e1 f) (h2 : EvV M S e2 g) (h3 : EvV M S e3 g3) (hN : S.N[i]? = some x := by kernel_rfl) (hN2 : S.N[j]? = some y := by kernel_rfl) (hN3 : S.N[l]? = some u := by kernel_rfl) (hij : i ≠ j := by decide) (hil : i ≠ l := by decide) (hjl : j ≠ l := by decide)
    (hx : S.sc.names.lookup x = some .local := by kernel_rfl) (hy : S.sc.names.lookup y = some .local := by kernel_rfl) (hu : S.sc.names.lookup u = some .local := by kernel_rfl) (hi : S.mt.contains i = false := by kernel_rfl) (hj : S.mt.contains j = false := by kernel_rfl) (hl : S.mt.contains l = false := by kernel_rfl)
    (ha : ∀ env, starEach [e1, e2, e3] env = (false, eval e1 env) :: starEach [e2, e3] env := by intro _; kernel_rfl) (hb : ∀ env, starEach [e2, e3] env = (false, eval e2 env) :: starEach [e3] env := by intro _; kernel_rfl) (hc : ∀ env, starEach [e3] env = (false, eval e3 env) :: starEach [] env := by intro _; kernel_rfl)
    (hw : ∀ env : PySem.Env, env.scope = S.sc → swappedStores [.Tuple [.Name x px, .Name y py, .Name u pu] kt pt] (.Tuple [e1, e2, e3] k2 pt2) env = pure (some [x, y, u]) := by intro env he; cases env; cases he; kernel_rfl) (hs : ∀ env : PySem.Env, env.scope = S.sc → swapsWithSole [.Tuple [.Name x px, .Name y py, .Name u pu] kt pt] (.Tuple [e1, e2, e3] k2 pt2) pos.line env = pure false := by intro env he; cases env; cases he; kernel_rfl) :
    EvS M S (.Assign [.Tuple [.Name x px, .Name y py, .Name u pu] kt pt] (.Tuple [e1, e2, e3] k2 pt2) pos) fun ρ => (f ρ).bind fun d => (g ρ).bind fun d' => (g3 ρ).bind fun d'' => W.pure (.nx (((ρ.set i (some d)).set j (some d')).set l (some d''))) := fun X G => by
  refine (ps_par3 (i := i) (j := j) (l := l) G.calm (by rw [G.N]; exact G.nd) (by rw [G.N]; exact hN) (by rw [G.N]; exact hN2) (by rw [G.N]; exact hN3) hij hil hjl (by rw [G.sc]; exact hx) (by rw [G.sc]; exact hy) (by rw [G.sc]; exact hu) (pa_cons (h1 X G) (pa_cons (h2 X G) (pa_cons (h3 X G) pa_nil (hc _)) (hb _)) (ha _)) (hw _ G.sc) (hs _ G.sc)).impW fun D σ H fc ⟨z0, H0, z, ρ, E, h⟩ => ?_
  have hm : i ∉ S.mt := fun m => by rw [List.contains_iff_mem.mpr m] at hi; cases hi
  have hm2 : j ∉ S.mt := fun m => by rw [List.contains_iff_mem.mpr m] at hj; cases hj
  have hm3 : l ∉ S.mt := fun m => by rw [List.contains_iff_mem.mpr m] at hl; cases hl
  refine ⟨z0, H0, z, ρ, E, (f ρ).mono (fun d k v z1 H1 st1 fc1 r1 => ?_) h⟩
  refine ⟨z0, H0, z1, ρ, E.step st1, (g ρ).mono (fun d' k v' z2 H2 st2 fc2 r2 => ?_) k⟩
  refine ⟨z0, H0, z2, ρ, (E.step st1).step st2, (g3 ρ).mono (fun d'' k v'' z3 H3 st3 fc3 r3 => ?_) k⟩
  exact ⟨v, v', v'', rfl, fun _ => k _ z3 H3 ((st1.le.trans st2.le).trans st3.le) ((((((E.step st1).step st2).step st3).set hm (r1.le (st2.le.trans st3.le))).set hm2 (r2.le st3.le)).set hm3 r3)⟩
/-- x += e, ints -/
theorem s_augI (i : Nat) {x : Str} {pos' : Pos} (he : EvV M S e f) (hN : S.N[i]? = some x := by kernel_rfl) (hl : locC S.sc x = true := by kernel_rfl) (hf : fnC S x = true := by kernel_rfl)
    (hi : S.mt.contains i = false := by kernel_rfl) : EvS M S (.AugAssign (.Name x pos') .Add e pos) fun ρ => (getV ρ i).bind fun d => d.asInt.bind fun k => (f ρ).bind fun d => d.asInt.bind fun l => W.pure (.nx (ρ.set i (some (.int (k + l))))) := fun X G => by
  refine (ps_aug (i := i) (by rw [G.N]; exact G.nd) (by rw [G.N]; exact hN) (by rw [G.sc]; exact loc_of hl) (he X G) ip_add (by rw [G.fn, G.sc]; exact fnC_of hf)).impW fun D σ H fc ⟨z0, H0, z, ρ, E, h⟩ => ?_
  have hm : i ∉ S.mt := fun m => by rw [List.contains_iff_mem.mpr m] at hi; cases hi
  obtain ⟨d, e1, k⟩ := getV_run h
  obtain ⟨n, rfl, k⟩ := asInt_run k
  obtain ⟨v, e2, r⟩ := E.val i _ hm e1
  cases r
  refine ⟨_, e2, z0, H0, z, ρ, E, (f ρ).mono (fun d k v z1 H1 st1 fc1 r1 => ?_) k⟩
  obtain ⟨l, rfl, k⟩ := asInt_run k
  cases r1
  exact ⟨_, _, rfl, rfl, fun _ => k _ z1 H1 st1.le ((E.step st1).set hm (.int _))⟩

/-! ### lists that grow, dicts that are put to -/
theorem own_lst {mt : List Nat} {K : PySem.W.Frag} {mg : Str → Option Value} {z0 z : Z} {H0 H : Hp} {σ : Sg} {ρ : Env} {i : Nat} {xs : List D} (E : EnvR mt K mg z0 H0 z H σ ρ) (hi : i ∈ mt) (hd : ρ[i]? = some (some (.lst xs))) :
    ∃ a vs, σ[i]? = some (some (.ref a)) ∧ ¬ z.β a ∧ H a = some (.lst vs) ∧ RpL K mg z vs xs := by
  obtain ⟨v, e2, a, o, rfl, f0, h0, b, q, c⟩ := E.own i _ hi hd
  cases c with
  | lst r => exact ⟨a, _, e2, b, q, r⟩
def D.asLst : D → W (List D)
  | .lst xs => W.pure xs
  | _ => W.fail
theorem asLst_run {d : D} {Q : List D → Prop} (h : d.asLst.run Q) : ∃ i, d = .lst i ∧ Q i := by
  cases d with
  | lst i => exact ⟨i, rfl, h⟩
  | _ => exact (show False from h).elim
/-- x.append(e) -/
theorem s_append (i : Nat) {x : Str} {p1 p2 p3 : Pos} (he : EvV M S e f) (hN : S.N[i]? = some x := by kernel_rfl) (hv : visC S.sc x = true := by kernel_rfl) (hi : S.mt.contains i = true := by kernel_rfl)
    (hd : (x == ("__debug__" : Str)) = false := by kernel_rfl) (hcd : (x == ("__classdict__" : Str)) = false := by kernel_rfl)
    (hbase : ∀ env, attributeBase (.Name x p1) "append" env (eval (.Name x p1) env) = eval (.Name x p1) env := by intro _; kernel_rfl)
    (hfew : ∀ env, ((backTo p3 (starEach [e] env)).all (fun x => !x.1) && (backToKw p3 (keywordEach [] env)).all (fun x => x.1.isSome) && decide ([e].length + ([] : List Keyword).length + (if ([] : List Keyword).isEmpty then 0 else 1) < 30)) = true := by intro _; kernel_rfl)
    (hline : (p2.endLine == p3.line) = true := by kernel_rfl) (hs : ∀ env, starEach [e] env = (false, eval e env) :: starEach [] env := by intro _; kernel_rfl) (hplain : ∀ env, (backTo p3 (starEach [] env)).any (·.1) = false := by intro _; kernel_rfl)
    (hsw : ∀ env, swapsWith (.Call (.Attribute (.Name x p1) "append" p2) [e] [] p3) none pos.line env = pure false := by intro _; kernel_rfl) :
    EvS M S (.Expr (.Call (.Attribute (.Name x p1) "append" p2) [e] [] p3) pos) fun ρ => (getV ρ i).bind fun l => l.asLst.bind fun xs => (f ρ).bind fun d => (W.need (xs.length < sizeLine)).bind fun _ => W.pure (.nx (ρ.set i (some (.lst (xs ++ [d]))))) := fun X G => by
  refine (ps_expr (pos := pos) (pe_bm (apos := p2) (cpos := p3) PySem.F.plainAttrs_list PySem.F.slot_list_append PySem.F.type_list_append mt_append (pe_var (pos := p1) (i := i) (by rw [G.N]; exact hN) (by rw [G.sc]; exact vis_of hv) hd hcd) (pa_cons (he X G) pa_nil (hs _)) (hbase _) (hfew _) hline (hs _) (hplain _)) (hsw _)).impW fun D σ H fc ⟨z0, H0, z, ρ, E, h⟩ => ?_
  obtain ⟨l, e1, k⟩ := getV_run h
  obtain ⟨xs, rfl, k⟩ := asLst_run k
  have hm := List.contains_iff_mem.mp hi
  obtain ⟨a, vs, e2, hβ, q, r⟩ := own_lst E hm e1
  refine ⟨_, e2, .inl ⟨rfl, vs, .of q⟩, z0, H0, z, ρ, E, (f ρ).mono (fun d k v z1 H1 st1 fc1 r1 => ?_) k⟩
  obtain ⟨hz, k⟩ := k
  refine ⟨a, vs, v, rfl, rfl, st1.keep _ _ hβ q, by rw [r.length]; exact hz, fun _ => ?_⟩
  exact k _ z1 _ st1.le ((E.step st1).chg hm e1 e2 (.lst ((r.le st1.le).append (.cons r1 .nil))))
/-- x.extend(e), e a list -/
theorem s_extend (i : Nat) {x : Str} {p1 p2 p3 : Pos} (he : EvB M S e f) (hN : S.N[i]? = some x := by kernel_rfl) (hv : visC S.sc x = true := by kernel_rfl) (hi : S.mt.contains i = true := by kernel_rfl)
    (hd : (x == ("__debug__" : Str)) = false := by kernel_rfl) (hcd : (x == ("__classdict__" : Str)) = false := by kernel_rfl)
    (hbase : ∀ env, attributeBase (.Name x p1) "extend" env (eval (.Name x p1) env) = eval (.Name x p1) env := by intro _; kernel_rfl)
    (hfew : ∀ env, ((backTo p3 (starEach [e] env)).all (fun x => !x.1) && (backToKw p3 (keywordEach [] env)).all (fun x => x.1.isSome) && decide ([e].length + ([] : List Keyword).length + (if ([] : List Keyword).isEmpty then 0 else 1) < 30)) = true := by intro _; kernel_rfl)
    (hline : (p2.endLine == p3.line) = true := by kernel_rfl) (hs : ∀ env, starEach [e] env = (false, eval e env) :: starEach [] env := by intro _; kernel_rfl) (hplain : ∀ env, (backTo p3 (starEach [] env)).any (·.1) = false := by intro _; kernel_rfl)
    (hsw : ∀ env, swapsWith (.Call (.Attribute (.Name x p1) "extend" p2) [e] [] p3) none pos.line env = pure false := by intro _; kernel_rfl) :
    EvS M S (.Expr (.Call (.Attribute (.Name x p1) "extend" p2) [e] [] p3) pos) fun ρ => (getV ρ i).bind fun l => l.asLst.bind fun xs => (f ρ).bind fun d => d.asLst.bind fun ys => (W.need (xs.length + ys.length ≤ sizeLine)).bind fun _ => W.pure (.nx (ρ.set i (some (.lst (xs ++ ys))))) := fun X G => by
  refine (ps_expr (pos := pos) (pe_bm (apos := p2) (cpos := p3) PySem.F.plainAttrs_list PySem.F.slot_list_extend PySem.F.type_list_extend mt_extend (pe_var (pos := p1) (i := i) (by rw [G.N]; exact hN) (by rw [G.sc]; exact vis_of hv) hd hcd) (pa_cons (he X G) pa_nil (hs _)) (hbase _) (hfew _) hline (hs _) (hplain _)) (hsw _)).impW fun D σ H fc ⟨z0, H0, z, ρ, E, h⟩ => ?_
  obtain ⟨l, e1, k⟩ := getV_run h
  obtain ⟨xs, rfl, k⟩ := asLst_run k
  have hm := List.contains_iff_mem.mp hi
  obtain ⟨a, vs, e2, hβ, q, r⟩ := own_lst E hm e1
  refine ⟨_, e2, .inl ⟨rfl, vs, .of q⟩, z0, H0, z, ρ, E, (f ρ).mono (fun d k v z1 H1 st1 fc1 r1 => ?_) k⟩
  obtain ⟨ys, rfl, hz, k⟩ := asLst_run k
  obtain ⟨b, us, rfl, q2, r2⟩ := r1.lst st1.ok
  refine ⟨a, b, vs, us, rfl, rfl, st1.keep _ _ hβ q, q2, by rw [r.length, r2.length]; exact hz, fun _ => ?_⟩
  exact k _ z1 _ st1.le ((E.step st1).chg hm e1 e2 (.lst ((r.le st1.le).append r2)))
/-- behind d[k] = v -/
def putD {κ : Type} [DecidableEq κ] (kvs : List (κ × D)) (k : κ) (v : D) : List (κ × D) :=
  if (kvs.any fun kv => decide (kv.1 = k)) = true then kvs.map (fun kv => if kv.1 = k then (kv.1, v) else kv) else kvs ++ [(k, v)]
theorem RpK.any {K : PySem.W.Frag} {mg : Str → Option Value} {z : Z} (k : Key) : ∀ {vs : List (Key × V)} {ds : List (Key × D)}, RpK K mg z vs ds → (vs.any fun kv => decide (kv.1 = k)) = (ds.any fun kv => decide (kv.1 = k))
  | _, _, .nil => rfl
  | _, _, .cons _ r => by rw [List.any_cons, List.any_cons, RpK.any k r]
theorem RpT.any {K : PySem.W.Frag} {mg : Str → Option Value} {z : Z} (k : List Key) : ∀ {vs : List (List Key × V)} {ds : List (List Key × D)}, RpT K mg z vs ds → (vs.any fun kv => decide (kv.1 = k)) = (ds.any fun kv => decide (kv.1 = k))
  | _, _, .nil => rfl
  | _, _, .cons _ r => by rw [List.any_cons, List.any_cons, RpT.any k r]
theorem RpK.map {K : PySem.W.Frag} {mg : Str → Option Value} {z : Z} {k : Key} {v : V} {d : D} (rv : Rp K mg z v d) : ∀ {vs : List (Key × V)} {ds : List (Key × D)}, RpK K mg z vs ds → RpK K mg z (vs.map fun kv => if kv.1 = k then (kv.1, v) else kv) (ds.map fun kv => if kv.1 = k then (kv.1, d) else kv)
  | _, _, .nil => .nil
  | _, _, .cons (k := k') h r => by
    rw [List.map_cons, List.map_cons]
    by_cases e : k' = k
    · rw [if_pos e, if_pos e]; exact .cons rv (RpK.map rv r)
    · rw [if_neg e, if_neg e]; exact .cons h (RpK.map rv r)
theorem RpT.map {K : PySem.W.Frag} {mg : Str → Option Value} {z : Z} {k : List Key} {v : V} {d : D} (rv : Rp K mg z v d) : ∀ {vs : List (List Key × V)} {ds : List (List Key × D)}, RpT K mg z vs ds → RpT K mg z (vs.map fun kv => if kv.1 = k then (kv.1, v) else kv) (ds.map fun kv => if kv.1 = k then (kv.1, d) else kv)
  | _, _, .nil => .nil
  | _, _, .cons (k := k') h r => by
    rw [List.map_cons, List.map_cons]
    by_cases e : k' = k
    · rw [if_pos e, if_pos e]; exact .cons rv (RpT.map rv r)
    · rw [if_neg e, if_neg e]; exact .cons h (RpT.map rv r)
theorem RpK.append {K : PySem.W.Frag} {mg : Str → Option Value} {z : Z} : ∀ {v w : List (Key × V)} {d e : List (Key × D)}, RpK K mg z v d → RpK K mg z w e → RpK K mg z (v ++ w) (d ++ e)
  | _, _, _, _, .nil, s => s
  | _, _, _, _, .cons h r, s => .cons h (RpK.append r s)
theorem RpT.append {K : PySem.W.Frag} {mg : Str → Option Value} {z : Z} : ∀ {v w : List (List Key × V)} {d e : List (List Key × D)}, RpT K mg z v d → RpT K mg z w e → RpT K mg z (v ++ w) (d ++ e)
  | _, _, _, _, .nil, s => s
  | _, _, _, _, .cons h r, s => .cons h (RpT.append r s)
theorem RpK.put {K : PySem.W.Frag} {mg : Str → Option Value} {z : Z} {k : Key} {v : V} {d : D} {vs : List (Key × V)} {ds : List (Key × D)} (r : RpK K mg z vs ds) (rv : Rp K mg z v d) : RpK K mg z (putK vs k v) (putD ds k d) := by
  unfold putK putD
  rw [r.any k]
  split
  · exact r.map rv
  · exact r.append (.cons rv .nil)
theorem RpT.put {K : PySem.W.Frag} {mg : Str → Option Value} {z : Z} {k : List Key} {v : V} {d : D} {vs : List (List Key × V)} {ds : List (List Key × D)} (r : RpT K mg z vs ds) (rv : Rp K mg z v d) : RpT K mg z (putK vs k v) (putD ds k d) := by
  unfold putK putD
  rw [r.any k]
  split
  · exact r.map rv
  · exact r.append (.cons rv .nil)
def D.put : D → D → D → W D
  | .dK kvs, k, v => (W.some? (asKey k)).bind fun k => (W.need (kvs.length < sizeLine)).bind fun _ => W.pure (.dK (putD kvs k v))
  | .dT kvs, .tup ks, v => (W.some? (asKeys ks)).bind fun k => (W.need (kvs.length < sizeLine)).bind fun _ => W.pure (.dT (putD kvs k v))
  | _, _, _ => W.fail
/-- d[k] = v -/
theorem s_dput (i : Nat) {x : Str} {p1 p2 : Pos} {k v : Expr} (hk : EvV M S k f) (hv : EvV M S v g) (hN : S.N[i]? = some x := by kernel_rfl) (hvis : visC S.sc x = true := by kernel_rfl) (hi : S.mt.contains i = true := by kernel_rfl)
    (hd : (x == ("__debug__" : Str)) = false := by kernel_rfl) (hcd : (x == ("__classdict__" : Str)) = false := by kernel_rfl)
    (hs : ∀ env, swapsWith v (some (.Subscript (.Name x p1) k p2)) pos.line env = pure false := by intro _; kernel_rfl) :
    EvS M S (.Assign [.Subscript (.Name x p1) k p2] v pos) fun ρ => (g ρ).bind fun d => (getV ρ i).bind fun c => (f ρ).bind fun kd => (c.put kd d).bind fun c' => W.pure (.nx (ρ.set i (some c'))) := fun X G => by
  refine (ps_dput (by have := G.room.un; omega) (pe_var (pos := p1) (i := i) (by rw [G.N]; exact hN) (by rw [G.sc]; exact vis_of hvis) hd hcd) (hk X G) (hv X G) (hs _)).impW fun Dn σ H fc ⟨z0, H0, z, ρ, E, h⟩ => ?_
  have hm := List.contains_iff_mem.mp hi
  refine ⟨z0, H0, z, ρ, E, (g ρ).mono (fun d kk v1 z1 H1 st1 fc1 r1 => ?_) h⟩
  obtain ⟨c, e1, kk⟩ := getV_run kk
  have E1 := E.step st1
  obtain ⟨cv, e2, a, o, rfl, f0, h0, hβ, q, cc⟩ := E1.own i _ hm e1
  refine ⟨_, e2, z0, H0, z1, ρ, E1, (f ρ).mono (fun kd kk v2 z2 H2 st2 fc2 r2 => ?_) kk⟩
  have E2 := E1.step st2
  have q2 := st2.keep _ _ hβ q
  have c2 := cc.le st2.le
  have r12 := r1.le st2.le
  have kk : (D.put c kd d).run (fun c' => ∀ σ z' H, Z.le z z' → EnvR S.mt X.K X.mg z0 H0 z' H σ (ρ.set i (some c')) → Dn.nx σ H) := kk
  unfold D.put at kk
  split at kk
  · obtain ⟨key, e3, kk⟩ := some_run kk
    obtain ⟨hz, kk⟩ := kk
    cases c2 with
    | dK r =>
      refine ⟨a, _, rfl, by rw [asKey_eq r2 e3]; exact DPut.k q2 (by rw [r.length]; exact hz), fun _ => ?_⟩
      exact kk _ z2 _ (st1.le.trans st2.le) (E2.chg hm e1 e2 (.dK (r.put r12)))
  · obtain ⟨key, e3, kk⟩ := some_run kk
    obtain ⟨hz, kk⟩ := kk
    cases c2 with
    | dT r =>
      cases r2 with
      | tup hf rl =>
        have eb := st2.ok.sub _ _ hf
        rw [asKeys_eq rl e3] at eb
        refine ⟨a, _, rfl, DPut.t q2 eb (by rw [r.length]; exact hz), fun _ => ?_⟩
        exact kk _ z2 _ (st1.le.trans st2.le) (E2.chg hm e1 e2 (.dT (r.put r12)))
  · exact (show False from kk).elim
/-- {} -/
theorem f_newK : EvF M S (.Dict [] [] pos) fun _ => W.pure (.dK []) := fun X G => (pe_dnewK (X := X)).impW fun σ H Q fc ⟨z0, H0, z, ρ, E, h⟩ => fun p hp fc2 => kF_new h (Step.refl E.ok) fc2 hp (.dK .nil)
theorem f_newT : EvF M S (.Dict [] [] pos) fun _ => W.pure (.dT []) := fun X G => (pe_dnewT (X := X)).impW fun σ H Q fc ⟨z0, H0, z, ρ, E, h⟩ => fun p hp fc2 => kF_new h (Step.refl E.ok) fc2 hp (.dT .nil)
end
end PW

set_option Elab.async false
set_option linter.all false
set_option maxRecDepth 100000
set_option maxHeartbeats 1000000
namespace PW
open PySem PySem.Spec PyProof.Rows L2

/-! ### loops -/
def forW (t : Tgt) (b : Env → W Out) : List D → Env → W Out
  | [], ρ => W.pure (.nx ρ)
  | d :: ds, ρ => (t.set d ρ).bind fun ρ' => (b ρ').bind fun o => match o with
    | .nx ρ'' => forW t b ds ρ''
    | .ct ρ'' => forW t b ds ρ''
    | .bk ρ'' => W.pure (.nx ρ'')
    | .rt d => W.pure (.rt d)
def whileN (p : Env → W Bool) (b : Env → W Out) : Nat → Env → W Out
  | 0, _ => W.fail
  | n + 1, ρ => (p ρ).bind fun k => if k = true then (b ρ).bind fun o => match o with
    | .nx ρ' => whileN p b n ρ'
    | .ct ρ' => whileN p b n ρ'
    | .bk ρ' => W.pure (.nx ρ')
    | .rt d => W.pure (.rt d)
    else W.pure (.nx ρ)
def whileW (p : Env → W Bool) (b : Env → W Out) : Env → W Out := fun ρ => W.ex fun n => whileN p b n ρ
section
variable {M : Mo} {S : Fix} {st : Stmt} {body : List Stmt} {b : Env → W Out} {pos : Pos} {tg iter e c : Expr} {fi : Env → W (List D)} {t : Tgt} {p : Env → W Bool}
theorem s_for (hi : EvI M S tg iter fi) (hg : EvG M S tg t) (hb : EvSs M S body b) (hs : ∀ env x, foldedSetIterable iter env x = pure x := by intro _ _; kernel_rfl) : EvS M S (.For tg iter body [] pos) fun ρ => (fi ρ).bind fun ds => forW t b ds ρ := fun X G => by
  have core := ps_for (pos := pos) (by rw [G.xe]; exact PassesOwn.never) G.calm (hi X G) (hg X G) (hb X G) (hs _)
  refine ⟨fun pins s σ H Dn I ⟨z0, H0, z, ρ, E, h⟩ => core.run pins s σ H Dn I ⟨z0, H0, z, ρ, E, (fi ρ).mono (fun ds k J z1 H1 st1 fc1 wk => ?_) h⟩⟩
  obtain ⟨⟨n, Gp, Y, wlk, hn, hG, hY⟩, hsz⟩ := wk
  refine for_it wlk (fun i σ H => ∃ ρ z', Z.le z1 z' ∧ EnvR S.mt X.K X.mg z0 H0 z' H σ ρ ∧ (forW t b (ds.drop i) ρ).run (kS X.K X.mg S.mt z0 H0 z Dn)) ⟨ρ, z1, Z.le.refl _, E.step st1, k⟩ (fun i σ H hi ⟨ρ, z', l, E, q⟩ => hG z' H l E.ok) (fun i x σ H H' hi ⟨ρ, z', l, E, q⟩ y => ?_) fun σ H ⟨ρ, z', l, E, q⟩ => ?_
  · obtain ⟨z'', d, ed, st, r⟩ := hY i H x H' z' l E.ok hi y
    rw [drop_get ed] at q
    have l2 := l.trans st.le
    refine ⟨z0, H0, z'', ρ, d, E.step st, r, (t.set d ρ).mono (fun ρ' k σ' E' w' m' => ⟨z0, H0, z'', ρ', E', (b ρ').mono (fun o k => ?_) k⟩) q⟩
    cases o with
    | nx ρ'' => exact fun σ z3 H l3 E3 => ⟨ρ'', z3, l2.trans l3, E3, k⟩
    | ct ρ'' => exact fun σ z3 H l3 E3 => ⟨ρ'', z3, l2.trans l3, E3, k⟩
    | bk ρ'' => exact fun σ z3 H l3 E3 => k σ z3 H ((st1.le.trans l2).trans l3) E3
    | rt d => exact k
  · rw [hn, List.drop_length] at q
    exact q σ z' H (st1.le.trans l) E
theorem s_while (hc : EvT M S c p) (hb : EvSs M S body b) : EvS M S (.While c body [] pos) (whileW p b) := fun X G => by
  have core := ps_while (pos := pos) (by rw [G.xe]; exact PassesOwn.never) (hc X G) (hb X G)
  refine ⟨fun pins s σ H Dn I ⟨z0, H0, z, ρ, E, n, h⟩ => core.run pins s σ H Dn I ⟨fun m σ H => ∃ ρ z', Z.le z z' ∧ EnvR S.mt X.K X.mg z0 H0 z' H σ ρ ∧ (whileN p b m ρ).run (kS X.K X.mg S.mt z0 H0 z Dn), ⟨n, ρ, z, Z.le.refl _, E, h⟩, ?_⟩⟩
  rintro m σ H ⟨ρ, z', l, E, q⟩
  cases m with
  | zero => exact (show False from q).elim
  | succ m =>
    refine ⟨z0, H0, z', ρ, E, (p ρ).mono (fun k kk z1 H1 st1 fc1 => ?_) q⟩
    have l2 := l.trans st1.le
    cases k with
    | true =>
      dsimp only
      rw [if_pos rfl]
      refine ⟨fun σ H => ∃ ρ z', Z.le z z' ∧ EnvR S.mt X.K X.mg z0 H0 z' H σ ρ ∧ (whileN p b m ρ).run (kS X.K X.mg S.mt z0 H0 z Dn), fun σ' H' h => ⟨m, Nat.lt_succ_self m, h⟩, z0, H0, z1, ρ, E.step st1, (b ρ).mono (fun o k => ?_) kk⟩
      cases o with
      | nx ρ'' => exact fun σ z3 H l3 E3 => ⟨ρ'', z3, l2.trans l3, E3, k⟩
      | ct ρ'' => exact fun σ z3 H l3 E3 => ⟨ρ'', z3, l2.trans l3, E3, k⟩
      | bk ρ'' => exact fun σ z3 H l3 E3 => k σ z3 H (l2.trans l3) E3
      | rt d => exact k
    | false =>
      dsimp only
      rw [if_neg Bool.false_ne_true]
      exact kk σ z1 H1 l2 (E.step st1)
end

/-! ### x = [..] on one line -/
theorem kV_kF {K : PySem.W.Frag} {mg : Str → Option Value} {z : Z} {H : Hp} {Q : VK} {d : D} (k : kV K mg z H Q d) : kF K mg z H Q d := fun a o z' H' st fc hn hf hβ ho c => by
  have ok := st.ok.freeze hf hβ ho
  refine k (.ref a) (z'.put a o) H' ⟨st.le.trans (Z.le_put hf), ok, st.keep, fun x o' h1 h2 h3 => ?_, fun x e => st.βn x e⟩ fc ((c.le (Z.le_put hf)).rp Z.put_at)
  show upd z'.f a o x = none
  rw [upd_ne (fun q => by rw [q, hn] at h2; cases h2)]
  exact st.new x o' h1 h2 h3
section
variable {M : Mo} {S : Fix} {tg iter elt tg1 iter1 : Expr} {ifs ifs1 : List Expr} {scope : Scope} {pos spos py : Pos} {fi fi1 : Env → W (List D)} {t t1 : Tgt} {p p1 : Env → W Bool} {f : Env → W D} {y : Str}
theorem s_setLc (i : Nat) (own : List (Str × Nat)) (hi : EvI M S tg iter fi) (hg : EvG M (S.blk scope) tg t) (ht : EvTs M (S.blk scope) ifs p) (he : EvV M (S.blk scope) elt f) (hok : blkC S.N S.sc scope own = true := by kernel_rfl)
    (hsl : (t.slots.all fun j => (own.map (·.2)).contains j) = true := by kernel_rfl) (hN : S.N[i]? = some y := by kernel_rfl) (hy : S.sc.names.lookup y = some .local := by kernel_rfl) (hm : S.mt.contains i = false := by kernel_rfl) (hk : S.sc.kind = .function := by kernel_rfl)
    (hl : (py.line == pos.line) = true := by kernel_rfl) (ha : (scope.names.any fun (n, k) => n == y && (k == .local || k == .cell)) = false := by kernel_rfl) (hs : ∀ env x, foldedSetIterable iter env x = pure x := by intro _ _; kernel_rfl) :
    EvS M S (.Assign [.Name y py] (.ListComp elt [⟨tg, iter, ifs, 0⟩] scope pos) spos) fun ρ => (lcW fi t p f (own.map (·.2)) ρ).bind fun d => W.pure (.nx (ρ.set i (some d))) := fun X G => by
  refine (ps_setLc (i := i) (own := own) (g := tG X.K X.mg S.mt t) (tt := tTs X.K X.mg S.mt p) (te := tV X.K X.mg S.mt f) G.calm (by rw [G.N]; exact G.nd) (by rw [G.N]; exact hN) (by rw [G.sc]; exact hy) (sw_true (by rw [G.sc]; exact hk) (by rw [G.sc]; exact hy) hl ha) (hi X G) (blkOk_by (by rw [G.N, G.sc]; exact hok))
    (fun s H C cl fp => hg _ (G.blk s H scope C cl fp)) (fun s H C cl fp => ht _ (G.blk s H scope C cl fp)) (fun s H C cl fp => he _ (G.blk s H scope C cl fp)) (hs _)).impW fun Dn σ H fc ⟨z0, H0, z, ρ, E, h⟩ => ?_
  have hm : i ∉ S.mt := fun m => by rw [List.contains_iff_mem.mpr m] at hm; cases hm
  have h : (lcW fi t p f (own.map (·.2)) ρ).run (fun d => kS X.K X.mg S.mt z0 H0 z Dn (.nx (ρ.set i (some d)))) := h
  refine lc_read (Q := fun x H1 => Dn.nx (σ.set i (some x)) H1) _ (fun j hj => List.contains_iff_mem.mp (List.all_eq_true.mp hsl j hj)) ⟨z0, H0, z, ρ, E, W.mono _ (fun d k => kV_kF fun v z1 H1 st1 fc1 r1 => ?_) h⟩
  exact k _ z1 H1 st1.le ((E.step st1).set hm r1)
theorem s_setLcF (i : Nat) (own : List (Str × Nat)) (hi : EvI M S tg iter fi) (hg : EvG M (S.blk scope) tg t) (ht : EvTs M (S.blk scope) ifs p) (he : EvV M (S.blk scope) elt f) (hok : blkC S.N S.sc scope own = true := by kernel_rfl)
    (hsl : (t.slots.all fun j => (own.map (·.2)).contains j) = true := by kernel_rfl) (hN : S.N[i]? = some y := by kernel_rfl) (hy : S.sc.names.lookup y = some .local := by kernel_rfl) (hm : S.mt.contains i = true := by kernel_rfl) (hk : S.sc.kind = .function := by kernel_rfl)
    (hl : (py.line == pos.line) = true := by kernel_rfl) (ha : (scope.names.any fun (n, k) => n == y && (k == .local || k == .cell)) = false := by kernel_rfl) (hs : ∀ env x, foldedSetIterable iter env x = pure x := by intro _ _; kernel_rfl) :
    EvS M S (.Assign [.Name y py] (.ListComp elt [⟨tg, iter, ifs, 0⟩] scope pos) spos) fun ρ => (lcW fi t p f (own.map (·.2)) ρ).bind fun d => W.pure (.nx (ρ.set i (some d))) := fun X G => by
  refine (ps_setLc (i := i) (own := own) (g := tG X.K X.mg S.mt t) (tt := tTs X.K X.mg S.mt p) (te := tV X.K X.mg S.mt f) G.calm (by rw [G.N]; exact G.nd) (by rw [G.N]; exact hN) (by rw [G.sc]; exact hy) (sw_true (by rw [G.sc]; exact hk) (by rw [G.sc]; exact hy) hl ha) (hi X G) (blkOk_by (by rw [G.N, G.sc]; exact hok))
    (fun s H C cl fp => hg _ (G.blk s H scope C cl fp)) (fun s H C cl fp => ht _ (G.blk s H scope C cl fp)) (fun s H C cl fp => he _ (G.blk s H scope C cl fp)) (hs _)).impW fun Dn σ H fc ⟨z0, H0, z, ρ, E, h⟩ => ?_
  have h : (lcW fi t p f (own.map (·.2)) ρ).run (fun d => kS X.K X.mg S.mt z0 H0 z Dn (.nx (ρ.set i (some d)))) := h
  refine lc_read (Q := fun x H1 => Dn.nx (σ.set i (some x)) H1) _ (fun j hj => List.contains_iff_mem.mp (List.all_eq_true.mp hsl j hj)) ⟨z0, H0, z, ρ, E, W.mono _ (fun d k a o z1 H1 st1 fc1 hn hf hβ ho c => ?_) h⟩
  exact k _ z1 H1 st1.le (E.setOwn st1 (List.contains_iff_mem.mp hm) hn hf hβ ho c)
theorem s_setLc2 (i : Nat) (own : List (Str × Nat)) (vs1 : List Nat) (hi : EvI M S tg iter fi) (hg : EvG M (S.blk scope) tg t) (ht : EvTs M (S.blk scope) ifs p) (hi1 : EvI M (S.blk scope) tg1 iter1 fi1) (hg1 : EvG M (S.blk scope) tg1 t1) (ht1 : EvTs M (S.blk scope) ifs1 p1) (he : EvV M (S.blk scope) elt f) (hok : blkC S.N S.sc scope own = true := by kernel_rfl)
    (hsl : (t.slots.all fun j => (own.map (·.2)).contains j) = true := by kernel_rfl) (hsl1 : (t1.slots.all fun j => vs1.contains j) = true := by kernel_rfl) (hv1 : (vs1.all fun j => (own.map (·.2)).contains j) = true := by kernel_rfl)
    (hN : S.N[i]? = some y := by kernel_rfl) (hy : S.sc.names.lookup y = some .local := by kernel_rfl) (hm : S.mt.contains i = false := by kernel_rfl) (hk : S.sc.kind = .function := by kernel_rfl)
    (hl : (py.line == pos.line) = true := by kernel_rfl) (ha : (scope.names.any fun (n, k) => n == y && (k == .local || k == .cell)) = false := by kernel_rfl) (hs : ∀ env x, foldedSetIterable iter env x = pure x := by intro _ _; kernel_rfl) (hs1 : ∀ env x, foldedSetIterable iter1 env x = pure x := by intro _ _; kernel_rfl) :
    EvS M S (.Assign [.Name y py] (.ListComp elt [⟨tg, iter, ifs, 0⟩, ⟨tg1, iter1, ifs1, 0⟩] scope pos) spos) fun ρ => (lc2W fi t p fi1 vs1 t1 p1 f (own.map (·.2)) ρ).bind fun d => W.pure (.nx (ρ.set i (some d))) := fun X G => by
  have hsub1 : ∀ j ∈ t1.slots, j ∈ vs1 := fun j hj => List.contains_iff_mem.mp (List.all_eq_true.mp hsl1 j hj)
  have hsubv : ∀ j ∈ vs1, j ∈ own.map (·.2) := fun j hj => List.contains_iff_mem.mp (List.all_eq_true.mp hv1 j hj)
  refine (ps_setLc2 (i := i) (own := own) (vs1 := vs1) (g := tG X.K X.mg S.mt t) (tt := tTs X.K X.mg S.mt p) (wi1 := tI X.K X.mg S.mt fi1) (g1 := tG X.K X.mg S.mt t1) (tt1 := tTs X.K X.mg S.mt p1) (te := tV X.K X.mg S.mt f) G.calm (by rw [G.N]; exact G.nd) (by rw [G.N]; exact hN) (by rw [G.sc]; exact hy)
    (sw_true (by rw [G.sc]; exact hk) (by rw [G.sc]; exact hy) hl ha) (hi X G) (blkOk_by (by rw [G.N, G.sc]; exact hok)) hsubv
    (fun s H C cl fp => hg _ (G.blk s H scope C cl fp)) (fun s H C cl fp => ht _ (G.blk s H scope C cl fp)) (fun s H C cl fp => hi1 _ (G.blk s H scope C cl fp)) (fun s H C cl fp => hg1 _ (G.blk s H scope C cl fp)) (fun s H C cl fp => ht1 _ (G.blk s H scope C cl fp)) (fun s H C cl fp => he _ (G.blk s H scope C cl fp)) (hs _) hs1).impW fun Dn σ H fc ⟨z0, H0, z, ρ, E, h⟩ => ?_
  have hm : i ∉ S.mt := fun m => by rw [List.contains_iff_mem.mpr m] at hm; cases hm
  have h : (lc2W fi t p fi1 vs1 t1 p1 f (own.map (·.2)) ρ).run (fun d => kS X.K X.mg S.mt z0 H0 z Dn (.nx (ρ.set i (some d)))) := h
  refine lc2_read (Q := fun x H1 => Dn.nx (σ.set i (some x)) H1) _ _ (fun j hj => List.contains_iff_mem.mp (List.all_eq_true.mp hsl j hj)) hsub1 hsubv ⟨z0, H0, z, ρ, E, W.mono _ (fun d k => kV_kF fun v z1 H1 st1 fc1 r1 => ?_) h⟩
  exact k _ z1 H1 st1.le ((E.step st1).set hm r1)
end

/-! ### {k: v for t in ds if p} -/
def dcompW (t : Tgt) (p : Env → W Bool) (fk fv : Env → W D) : List D → Env → List (Key × D) → W (List (Key × D))
  | [], _, acc => W.pure acc
  | d :: ds, ρ, acc => (t.set d ρ).bind fun ρ' => (p ρ').bind fun b => if b = true then (fk ρ').bind fun k => (fv ρ').bind fun v => (W.some? (asKey k)).bind fun k => (W.need (acc.length < sizeLine)).bind fun _ => dcompW t p fk fv ds ρ (putD acc k v) else dcompW t p fk fv ds ρ acc
structure DSt (mt : List Nat) (K : PySem.W.Frag) (mg : Str → Option Value) (z0 : Z) (H0 : Hp) (zb : Z) (Hb : Hp) (z1 : Z) (Dl : Addr) (σ : Sg) (ρ : Env) (acc : List (Key × D)) (z' : Z) (H' : Hp) : Prop where
  env : EnvR mt K mg z0 H0 z' H' σ ρ
  le : Z.le z1 z'
  st : Step K zb Hb z' H'
  f0 : z'.f Dl = none
  nβ : ¬ z'.β Dl
  own : ∀ i d, i ∈ mt → ρ[i]? = some (some d) → σ[i]? ≠ some (some (.ref Dl))
  h0 : H0 Dl = none
  hb : Hb Dl = none
  at_ : ∃ av, H' Dl = some (.dK av) ∧ RpK K mg z' av acc
section
variable {K : PySem.W.Frag} {mg : Str → Option Value} {z z' z0 z1 zb : Z} {H H' H0 Hb : Hp} {Dl : Addr} {mt : List Nat} {σ : Sg} {ρ : Env} {acc : List (Key × D)}
theorem DSt.step {z'' : Z} {H'' : Hp} (c : DSt mt K mg z0 H0 zb Hb z1 Dl σ ρ acc z' H') (s : Step K z' H' z'' H'') : DSt mt K mg z0 H0 zb Hb z1 Dl σ ρ acc z'' H'' := by
  obtain ⟨av, q, r⟩ := c.at_
  refine ⟨c.env.step s, c.le.trans s.le, c.st.trans s, s.new _ _ c.f0 q trivial, fun e => ?_, c.own, c.h0, c.hb, av, s.keep _ _ c.nβ q, r.le s.le⟩
  rcases s.βn _ e with e | e
  · exact c.nβ e
  · rw [q] at e; cases e
theorem DSt.push {v : V} {d : D} (k : Key) (c : DSt mt K mg z0 H0 zb Hb z1 Dl σ ρ acc z' H') (r : Rp K mg z' v d) : ∃ av, H' Dl = some (.dK av) ∧ av.length = acc.length ∧ DSt mt K mg z0 H0 zb Hb z1 Dl σ ρ (putD acc k d) z' (upd H' Dl (.dK (putK av k v))) := by
  obtain ⟨av, q, ra⟩ := c.at_
  exact ⟨av, q, ra.length, c.env.other c.h0 c.f0 c.nβ c.own, c.le, c.st.other c.hb c.f0 c.nβ, c.f0, c.nβ, c.own, c.h0, c.hb, _, upd_same, ra.put r⟩
theorem DSt.begin (E : EnvR mt K mg z0 H0 zb Hb σ ρ) (st : Step K zb Hb z1 H) (hd : H Dl = none) : DSt mt K mg z0 H0 zb Hb z1 Dl σ ρ [] z1 (upd H Dl (.dK [])) := by
  have E1 := E.step st
  exact ⟨E1.step (Step.fresh st.ok hd), Z.le.refl _, st.trans (Step.fresh st.ok hd), st.ok.free hd, st.ok.nβ hd, E1.nown hd, E1.st.was hd, st.was hd, [], upd_same, .nil⟩
theorem DSt.fin {Q : VK} (c : DSt mt K mg z0 H0 zb Hb z1 Dl σ ρ acc z' H') (fc : Fct K H') (k : kF K mg zb Hb Q (.dK acc)) : Q (.ref Dl) H' := by
  obtain ⟨av, q, r⟩ := c.at_
  exact k Dl _ z' H' c.st fc c.hb c.f0 c.nβ q (.dK r)
end
section
variable {M : Mo} {S : Fix} {tg iter kx vx : Expr} {ifs : List Expr} {scope : Scope} {pos : Pos} {fi : Env → W (List D)} {t : Tgt} {p : Env → W Bool} {fk fv : Env → W D}
def dcW (fi : Env → W (List D)) (t : Tgt) (p : Env → W Bool) (fk fv : Env → W D) (vs : List Nat) : Env → W D := fun ρ => (fi ρ).bind fun ds => (dcompW t p fk fv ds (wipeE ρ vs) []).bind fun r => W.pure (.dK r)
theorem dc_read {K : PySem.W.Frag} {mg : Str → Option Value} {mt : List Nat} (vs : List Nat) (hsub : ∀ j ∈ t.slots, j ∈ vs) {σ : Sg} {H : Hp} {Q : VK} (hh : tFr K mg mt (dcW fi t p fk fv vs) σ H Q) :
    tDc (tI K mg mt fi) (tG K mg mt t) (tTs K mg mt p) (tV K mg mt fk) (tV K mg mt fv) vs σ H (fun v H' => Fct K H' → Q v H') := by
  obtain ⟨z0, H0, z, ρ, E, h⟩ := hh
  refine ⟨z0, H0, z, ρ, E, (fi ρ).mono (fun ds k J z1 H1 st1 fc1 wk => fun Dl hDl => ?_) h⟩
  obtain ⟨⟨n, Gp, Y, wlk, hn, hG, hY⟩, hsz⟩ := wk
  refine ⟨fun i m H' => m = n - i ∧ i ≤ n ∧ ∃ acc z', DSt mt K mg z0 H0 z H z1 Dl (wipe σ vs) (wipeE ρ vs) acc z' H' ∧
    (dcompW t p fk fv (ds.drop i) (wipeE ρ vs) acc).run fun r => kF K mg z H Q (.dK r), ⟨n, by simp, Nat.zero_le _, [], z1, DSt.begin (E.wipe vs) st1 hDl, k⟩, ?_⟩
  rintro i m H' ⟨rfl, hi', acc, z', c, q⟩
  have hGH := hG z' H' c.le c.st.ok
  by_cases hlt : i < n
  · refine .inr ⟨wlk.goes i H' hlt hGH, fun H' => ∃ acc z', DSt mt K mg z0 H0 z H z1 Dl (wipe σ vs) (wipeE ρ vs) acc z' H' ∧ (dcompW t p fk fv (ds.drop (i + 1)) (wipeE ρ vs) acc).run fun r => kF K mg z H Q (.dK r),
      fun H' hx => ⟨n - (i + 1), by omega, rfl, hlt, hx⟩, fun x H'' y => ?_⟩
    obtain ⟨z'', d, ed, st, r⟩ := hY i H' x H'' z' c.le c.st.ok hlt (wlk.yields i H' x H'' hlt hGH y)
    rw [drop_get ed] at q
    have c2 := c.step st
    refine ⟨z0, H0, z'', _, d, c2.env, r, (t.set d _).mono (fun ρ' k σ' E' w' m' => ⟨(w' vs hsub).trans wipe_wipe, z0, H0, z'', ρ', E', (p ρ').mono (fun b k z3 H3 st3 fc3 => ?_) k⟩) q⟩
    cases b with
    | false =>
      rw [if_neg Bool.false_ne_true]
      exact ⟨acc, z3, c2.step st3, k⟩
    | true =>
      rw [if_pos rfl]
      refine ⟨z0, H0, z3, ρ', E'.step st3, (fk ρ').mono (fun y k v z4 H4 st4 fc4 r4 => ?_) k⟩
      refine ⟨z0, H0, z4, ρ', (E'.step st3).step st4, (fv ρ').mono (fun y2 k v2 z5 H5 st5 fc5 r5 => ?_) k⟩
      obtain ⟨key, e3, hz, k⟩ := some_run k
      obtain ⟨av, e1, e2, c3⟩ := (((c2.step st3).step st4).step st5).push key r5
      exact ⟨av, key, asKey_eq r4 e3, e1, by rw [e2]; exact hz, _, z5, c3, k⟩
  · have e : i = n := by omega
    subst e
    rw [hn, List.drop_length] at q
    exact .inl ⟨wlk.stops H' hGH, fun fc' => c.fin fc' q⟩
theorem f_dc (own : List (Str × Nat)) (hi : EvI M S tg iter fi) (hg : EvG M (S.blk scope) tg t) (ht : EvTs M (S.blk scope) ifs p) (hk : EvV M (S.blk scope) kx fk) (hv : EvV M (S.blk scope) vx fv) (hok : blkC S.N S.sc scope own = true := by kernel_rfl)
    (hsl : (t.slots.all fun j => (own.map (·.2)).contains j) = true := by kernel_rfl) (hs : ∀ env x, foldedSetIterable iter env x = pure x := by intro _ _; kernel_rfl) :
    EvF M S (.DictComp kx vx [⟨tg, iter, ifs, 0⟩] scope pos) (dcW fi t p fk fv (own.map (·.2))) := fun X G =>
  (pe_dc (own := own) (g := tG X.K X.mg S.mt t) (tt := tTs X.K X.mg S.mt p) (tk := tV X.K X.mg S.mt fk) (tv := tV X.K X.mg S.mt fv) G.calm (by rw [G.N]; exact G.nd) (hi X G) (blkOk_by (by rw [G.N, G.sc]; exact hok)) (fun s H C cl fp => hg _ (G.blk s H scope C cl fp)) (fun s H C cl fp => ht _ (G.blk s H scope C cl fp))
    (fun s H C cl fp => hk _ (G.blk s H scope C cl fp)) (fun s H C cl fp => hv _ (G.blk s H scope C cl fp)) (hs _)).impW fun σ H Q fc h => dc_read _ (fun j hj => List.contains_iff_mem.mp (List.all_eq_true.mp hsl j hj)) h
end

/-! ### a def's promise by its body -/
def startE (n : Nat) (ds : List D) : Env := ds.map some ++ List.replicate (n - ds.length) none
def Out.fin : Out → W D
  | .rt d => W.pure d
  | .nx _ => W.pure .non
  | _ => W.fail
/-- what a def with np parameters and n slots does -/
def defW (np n : Nat) (w : Env → W Out) : List D → W D := fun ds => (W.need (ds.length = np)).bind fun _ => (w (startE n ds)).bind Out.fin
theorem _root_.L2.PSs.impW {X : Cx} {st : List Stmt} {t t' : TS} (h : PSs X st t) (hi : ∀ D σ H, Fct X.K H → t' D σ H → t (D.f X.K) σ H) : PSs X st t' :=
  ⟨fun pins s σ H D I hw => thn (h.run pins s σ H _ I (hi D σ H (fct_of I) hw)) fun _ _ q => sp_fct q⟩
section
variable {K : PySem.W.Frag} {mg : Str → Option Value} {z : Z} {H : Hp} {mt : List Nat}
theorem start_get {N : List Str} {vs : List V} {ds : List D} (r : RpL K mg z vs ds) {i : Nat} {d : D} (e : (startE N.length ds)[i]? = some (some d)) : i < ds.length ∧ ∃ v, (L2.start N vs)[i]? = some (some v) ∧ Rp K mg z v d := by
  unfold startE at e
  by_cases hi : i < ds.length
  · rw [List.getElem?_append_left (by simpa using hi), List.getElem?_map] at e
    cases q : ds[i]? with
    | none => rw [q] at e; cases e
    | some x =>
      rw [q] at e
      cases e
      obtain ⟨v, e2, r2⟩ := r.get q
      refine ⟨hi, v, ?_, r2⟩
      unfold L2.start
      rw [List.getElem?_append_left (by rw [List.length_map, r.length]; exact hi), List.getElem?_map, e2]
      rfl
  · rw [List.getElem?_append_right (by simpa using hi), List.getElem?_replicate] at e
    split at e <;> cases e
theorem env_start {N : List Str} {vs : List V} {ds : List D} (ok : ZOk K z H) (r : RpL K mg z vs ds) (hl : ds.length ≤ N.length) (hmt : ∀ i ∈ mt, ds.length ≤ i) : EnvR mt K mg z H z H (L2.start N vs) (startE N.length ds) := by
  refine ⟨Step.refl ok, ?_, fun i d hi e => (start_get r e).2, fun i d hi e => ?_, fun i j d e hi hj hij q q' => ?_⟩
  · unfold startE L2.start
    rw [List.length_append, List.length_append, List.length_map, List.length_map, List.length_replicate, List.length_replicate, r.length]
  · exact absurd (start_get r e).1 (by have := hmt i hi; omega)
  · exact absurd (start_get r q).1 (by have := hmt i hi; omega)
end
/-- the table and the module's names, of a frame -/
structure Mod0 (M : Mo) (P : Program) (w : World) (K : PySem.W.Frag) (mg : Str → Option Value) (base : Heap) : Prop where
  tab : TabOk P w K mg base M.lv M.T
  free : ∀ x ∈ M.free, mg x = none
  con : ∀ x d, (x, d) ∈ M.con → ∃ v u, mg x = some u ∧ RelV v u ∧ ∀ z, Rp K mg z v d
theorem good_of {M : Mo} {P : Program} {w : World} {K : PySem.W.Frag} {mg : Str → Option Value} {base : Heap} (m : Mod0 M P w K mg base) {N : List Str} {scope : Scope} {mt : List Nat} (nd : N.Nodup) {qual : Str} {f : Addr} {cdv : Value} {A : Around} {outer : List PySem.Env} {s : Shared} {H : Hp} {E : XK}
    (hr : Room M.lv (A.deeper (envOfC qual scope s.heap.objs.size f cdv))) : Good M ⟨N, scope, fun _ => true, mt⟩ (cxOf CX0 P w K mg base N qual scope f cdv A outer s H E).nox :=
  ⟨rfl, nd, rfl, rfl, rfl, rfl, m.tab, hr, m.free, m.con⟩
theorem body_run {M : Mo} {N : List Str} {scope : Scope} {mt : List Nat} {X : Cx} {body : List Stmt} {b : Env → W Out} {vs : List V} {H : Hp} {Q : VK} {ds : List D} {z : Z} (G : Good M ⟨N, scope, fun _ => true, mt⟩ X) (hb : EvSs M ⟨N, scope, fun _ => true, mt⟩ body b) (ok : ZOk X.K z H) (r : RpL X.K X.mg z vs ds)
    (hl : ds.length ≤ N.length) (hmt : ∀ i ∈ mt, ds.length ≤ i) (h : ((b (startE N.length ds)).bind Out.fin).run (kV X.K X.mg z H Q)) : ∃ t, PSs X body t ∧ t { nx := fun _ H' => Q .non H', rt := Q } (L2.start N vs) H := by
  refine ⟨fun Dn σ H => tS X.K X.mg mt b (Dn.f X.K) σ H, ⟨fun pins s σ H Dn I hw => thn ((hb X G).run pins s σ H _ I hw) fun _ _ q => sp_fct q⟩, z, H, z, _, env_start ok r hl hmt, (b _).mono (fun o k => ?_) h⟩
  cases o with
  | nx ρ => exact fun σ z' H' l E fc => k .non z' H' E.st fc .non
  | rt d => exact fun v z' H' st fc r _ => k v z' H' st fc r
  | bk ρ => exact (show False from k).elim
  | ct ρ => exact (show False from k).elim
section
variable {M : Mo} {P : Program} {w : World} {K : PySem.W.Frag} {mg : Str → Option Value} {base : Heap} {x qual : Str} {params : Arguments} {body : List Stmt} {scope : Scope} {f : Addr} {fd : FuncData} {N ps : List Str} {mt : List Nat} {b : Env → W Out}
/-- a def without defaults -/
theorem fnr_def (F : FunD K x qual params body scope [] [] f fd) (m : Mod0 M P w K mg base) (hb : EvSs M ⟨N, scope, fun _ => true, mt⟩ body b) (hS : C8.scC N ps scope = true)
    (hbind : ∀ (kV doc pm : Value) (an : Option Addr) (cdv ct : Value) (us : List Value), us.length = ps.length → bindArgs (PySem.W.fnOf x qual params body scope .none kV doc pm an cdv ct) ⟨us, []⟩ = pure (ps.zip us)) (hmt : (mt.all fun i => decide (ps.length ≤ i)) = true) (hN : ps.length ≤ N.length) :
    FnR P w K mg base CX0 (M.lv + 1) f (spW K mg (defW ps.length N.length b)) := by
  have S := C8.fnScope_by hS
  have core := F.ok (P := P) (w := w) (mg := mg) (base := base) (CX := CX0) (k := M.lv) (sp := spW K mg (defW ps.length N.length b)) S (fun vs H Q E ⟨z, ds, ok, r, h⟩ => by rw [r.length]; exact h.1) fun cdv A outer s H vs Q E hr ⟨z, ds, ok, r, h⟩ => by
    obtain ⟨hl, h⟩ := h
    obtain ⟨t, h1, h2⟩ := body_run (X := (cxOf CX0 P w K mg base N qual scope f cdv A outer s H E).nox) (good_of (mt := mt) m S.nd hr) hb ok r (by rw [hl]; exact hN) (fun i hi => by rw [hl]; exact of_decide_eq_true (List.all_eq_true.mp hmt i hi)) h
    exact ⟨t, h1.nox, h2⟩
  have raw := core.raw (F.bindsN hbind) .nil
  exact raw.imp fun vs H Q E h => by rw [List.append_nil]; exact h
/-- what a def f(a, *r) does -/
def defVW (nmax n : Nat) (b : Env → W Out) : List D → W D
  | d :: ds => (W.need (ds.length ≤ nmax)).bind fun _ => (b (startE n [d, .tup ds])).bind Out.fin
  | [] => W.fail
theorem fnr_defV {nmax : Nat} {pa pv : Str} (F : FunD K x qual params body scope [] [] f fd) (m : Mod0 M P w K mg base) (hb : EvSs M ⟨N, scope, fun _ => true, mt⟩ body b) (hS : C8.scC N [pa, pv] scope = true) (hz : nmax ≤ sizeLine)
    (hbind : ∀ (kV doc pm : Value) (an : Option Addr) (cdv ct : Value), ∀ (u : Value) (rest : List Value), rest.length ≤ nmax → bindArgs (PySem.W.fnOf x qual params body scope .none kV doc pm an cdv ct) ⟨u :: rest, []⟩ = (newTuple rest >>= fun t => pure [(pa, u), (pv, t)])) (hmt : (mt.all fun i => decide (2 ≤ i)) = true) (hN : 2 ≤ N.length) :
    FnR P w K mg base CX0 (M.lv + 1) f (spW K mg (defVW nmax N.length b)) := by
  have S := C8.fnScope_by hS
  obtain ⟨oc, od, dV, kV', doc, pm, an, cdv, ct, osl, rfl, lk, hcd, hD, _⟩ := F.ex
  obtain rfl : dV = .none := by
    rcases hD with ⟨_, rfl⟩ | ⟨e, _⟩
    · rfl
    · exact absurd rfl e
  have core := fn_ofV (P := P) (w := w) (mg := mg) (base := base) (CX := CX0) (k := M.lv) (nmax := nmax) (N := N) (pa := pa) (pv := pv) (sp := fun vs H Q E => ∃ z ds, ZOk K z H ∧ RpL K mg z vs ds ∧ ds.length = 2 ∧ ((b (startE N.length ds)).bind Out.fin).run (kV K mg z H Q)) lk hcd S hz (hbind _ _ _ _ _ _) (fun _ _ _ _ _ _ _ _ _ _ _ _ h => h)
    fun A outer s H vs Q E hr ⟨z, ds, ok, r, hl, h⟩ => by
      obtain ⟨t, h1, h2⟩ := body_run (X := (cxOf CX0 P w K mg base N qual scope f cdv A outer s H E).nox) (good_of (mt := mt) m S.nd hr) hb ok r (by rw [hl]; exact hN) (fun i hi => by rw [hl]; exact of_decide_eq_true (List.all_eq_true.mp hmt i hi)) h
      exact ⟨t, h1.nox, h2⟩
  refine core.imp fun vs H Q E ⟨z, ds, ok, r, h⟩ => ?_
  cases r with
  | nil => exact (show False from h).elim
  | @cons v vs d ds r1 r2 =>
    obtain ⟨hl, h⟩ := h
    refine ⟨_, _, rfl, by rw [r2.length]; exact hl, fun p hp => ?_⟩
    have st := Step.put (o := .tup vs) ok hp
    exact ⟨_, [d, .tup ds], st.ok, .cons (r1.le st.le) (.cons (.tup Z.put_at (r2.le st.le)) .nil), rfl, ((b _).bind Out.fin).mono (fun d k v z' H' st' fc r => k v z' H' (st.trans st') fc r) h⟩
end
end PW

set_option Elab.async false
set_option linter.all false
set_option maxRecDepth 100000
set_option maxHeartbeats 1000000
namespace PW
open PySem PySem.Spec PyProof.Rows L2
section
variable {M : Mo} {S : Fix} {e : Expr} {es : List Expr} {f : Env → W D} {fs : Env → W (List D)} {p p2 q pos : Pos}
/-! ### len(set([..])) of ints -/
def dedI (ns : List Int) : List Int := ns.foldl step_dedup []
theorem firstMet_dedI (ns : List Int) : firstMet (fun i => ns.getD i 0) ns.length = dedI ns := by
  unfold firstMet dedI
  have e : (List.range ns.length).map (fun i => ns.getD i 0) = ns := by
    apply List.ext_getElem
    · rw [List.length_map, List.length_range]
    · intro i h1 h2
      rw [List.getElem_map, List.getElem_range, List.getD_eq_getElem?_getD, List.getElem?_eq_getElem h2]
      rfl
  rw [e]
def D.lenSet : D → W D
  | .lst xs => (W.some? (D.ints xs)).bind fun ns => (W.need (ns.length ≤ 4000)).bind fun _ => W.pure (.int (dedI ns).length)
  | _ => W.fail
theorem v_lenset (ha : EvB M S e f) (hf : decide (("len" : Str) ∈ M.free) = true := by kernel_rfl) (hf2 : decide (("set" : Str) ∈ M.free) = true := by kernel_rfl) (hg : S.sc.names.lookup ("len" : Str) = some .globalImplicit := by kernel_rfl) (hg2 : S.sc.names.lookup ("set" : Str) = some .globalImplicit := by kernel_rfl)
    (na : ∀ env, starEach [e] env = (false, eval e env) :: starEach [] env := by intro _; kernel_rfl) :
    EvV M S (.Call (.Name "len" p) [.Call (.Name "set" p2) [e] [] q] [] pos) fun ρ => (f ρ).bind D.lenSet := fun X G => by
  have core : PE X (.Call (.Name "len" p) [.Call (.Name "set" p2) [e] [] q] [] pos) (fun σ H Q => tBr X.K X.mg S.mt f σ H fun x H1 => ∃ (l : Addr) (ns : List Int), x = .ref l ∧ SqL X.K H1 l (ns.map V.int) ∧ ns.length ≤ 4000 ∧ Q (.int (dedI ns).length) H1) := by
    refine ⟨fun pins s σ H Q I h => ?_⟩
    refine Call_ (ld_blt I (gl_of G hg) (G.free _ (of_decide_eq_true hf)) boot_len ?_)
    refine PyProof.Rows.callWith_builtin1 (PyProof.Rows.args_cons ?_ rfl) rfl rfl
    refine Call_ (ld_blt I (gl_of G hg2) (G.free _ (of_decide_eq_true hf2)) boot_set ?_)
    refine PyProof.Rows.callWith_type1 (PyProof.Rows.args_cons (thn ((ha X G).run pins s σ H _ I h) fun v s1 ⟨x, H1, I1, r1, q1⟩ => PyProof.Rows.args_nil ?_) (na _)) (na _) rfl
    obtain ⟨l, ns, rfl, hq, hl, q1⟩ := q1
    cases r1
    obtain ⟨its, r, pl, hz⟩ := I1.list hq
    have hlen : its.toArray.size = ns.length := by rw [List.size_toArray, ← r.length, List.length_map]
    refine call_set_list (I1.ok.hd G.calm) pl.isList (by simpa using r.ints) (by rw [hlen]; unfold scanBound; omega) fun h' tk hS hk => ?_
    refine PyProof.Rows.args_nil ?_
    rw [hlen, firstMet_dedI] at hS
    obtain ⟨o, es, ep, t, ho, hex, hd, _, _, _, hf, hn⟩ := hS
    have I2 : Inv X pins σ H1 { s1 with heap := h', toks := tk } := I1.kept fun b o e => hk b o (Heap.lt_size e) e
    have hle : (dedI ns).length ≤ 4000 := by
      rw [← firstMet_dedI]
      exact Nat.le_trans (firstMet_length_le _ _) hl
    exact call_len_set ho hex hd hf (by rw [hn] <;> omega) ⟨.int (dedI ns).length, H1, I2.tok _, ⟨_, by rw [hn]⟩, q1⟩
  refine core.impW fun σ H Q fc ⟨z0, H0, z, ρ, E, h⟩ => ⟨z0, H0, z, ρ, E, (f ρ).mono (fun d k v z1 H1 st1 fc1 r1 => ?_) h⟩
  cases d with
  | lst xs =>
    obtain ⟨ns, e, hz, k⟩ := some_run (show ((W.some? (D.ints xs)).bind fun ns => (W.need (ns.length ≤ 4000)).bind fun _ => W.pure (D.int (dedI ns).length)).run _ from k)
    obtain ⟨a, vs, rfl, q, r⟩ := r1.lst st1.ok
    exact ⟨a, ns, rfl, .of (by rw [← ints_eq r e]; exact q), hz, fun _ => k _ z1 H1 st1 fc1 (.int _)⟩
  | _ => exact (show False from k).elim

/-! ### dict([(k, v), ..]) -/
def pairsD : List D → Option (List (Key × D))
  | [] => some []
  | .tup [k, v] :: ds => match asKey k, pairsD ds with
    | some k, some r => some ((k, v) :: r)
    | _, _ => none
  | _ => none
def mergeD (kvs : List (Key × D)) : List (Key × D) := kvs.foldl (fun acc kv => putD acc kv.1 kv.2) []
def D.dict : List D → W D
  | [.lst xs] => (W.some? (pairsD xs)).bind fun kvs => W.pure (.dK (mergeD kvs))
  | _ => W.fail
theorem pairs_rp {K : PySem.W.Frag} {mg : Str → Option Value} {z : Z} {H : Hp} (s : Same z.f H) : ∀ {vs : List V} {ds : List D} {kvs : List (Key × D)}, RpL K mg z vs ds → pairsD ds = some kvs → ∃ (ps : List Addr) (kv : List (Key × V)), vs = ps.map V.ref ∧ Paired (fun p kv => SqT K H p [L2.kV kv.1, kv.2]) ps kv ∧ RpK K mg z kv kvs
  | _, _, _, .nil, e => by cases e; exact ⟨[], [], rfl, .nil, .nil⟩
  | _, _, _, .cons (d := d) (ds := ds) h r, e => by
    unfold pairsD at e
    split at e
    · rename_i heq; cases heq
    · rename_i k v ds' heq
      cases heq
      cases q : asKey k with
      | none => rw [q] at e; cases e
      | some key =>
        cases q2 : pairsD ds with
        | none => rw [q, q2] at e; cases e
        | some kvs =>
          rw [q, q2] at e
          cases e
          obtain ⟨ps, kv, rfl, h1, h2⟩ := pairs_rp s r q2
          cases h with
          | tup hf rl =>
            rename_i a vs
            obtain ⟨v1, v2, rfl, r1, r2⟩ := rl.two
            have e1 := asKey_eq r1 q
            subst e1
            exact ⟨a :: ps, (key, v2) :: kv, rfl, .cons (.of (s _ _ hf)) h1, .cons r2 h2⟩
    · cases e
theorem merge_rp {K : PySem.W.Frag} {mg : Str → Option Value} {z : Z} : ∀ {kv : List (Key × V)} {kvs : List (Key × D)} {a : List (Key × V)} {b : List (Key × D)}, RpK K mg z kv kvs → RpK K mg z a b → RpK K mg z (kv.foldl (fun acc kv => putK acc kv.1 kv.2) a) (kvs.foldl (fun acc kv => putD acc kv.1 kv.2) b)
  | _, _, _, _, .nil, s => s
  | _, _, _, _, .cons h r, s => by rw [List.foldl_cons, List.foldl_cons]; exact merge_rp r (s.put h)
theorem c_dict : CallFE M S (.type "dict") D.dict := fun X G => by
  refine ⟨_, call_dictP G.calm, fun {z H vs ds Q} fc ok rs h => ?_⟩
  unfold D.dict at h
  split at h
  · obtain ⟨v, rfl, r⟩ := rs.one
    obtain ⟨a, vs, rfl, q, r⟩ := r.lst ok
    obtain ⟨kvs, e, h⟩ := some_run h
    obtain ⟨ps, kv, rfl, h1, h2⟩ := pairs_rp ok.sub r e
    exact ⟨a, ps, kv, rfl, .of q, h1, fun p hp fc2 => kF_new h (Step.refl ok) fc2 hp (.dK (merge_rp h2 .nil))⟩
  · exact (show False from h).elim
end

/-! ### tables of defs -/
structure FnAt (P : Program) (w : World) (K : PySem.W.Frag) (mg : Str → Option Value) (base : Heap) (lv : Nat) (x : Str) (Φ : List D → W D) : Prop where
  ex : ∃ f, mg x = some (.ref f) ∧ PySem.W.keepIn K (.ref f) = true ∧ FnR P w K mg base CX0 lv f (spW K mg Φ)
section
variable {P : Program} {w : World} {K : PySem.W.Frag} {mg : Str → Option Value} {base : Heap} {lv l : Nat} {x : Str} {Φ : List D → W D} {T : Tab}
theorem FnAt.mono (h : FnAt P w K mg base l x Φ) (hl : l ≤ lv) : FnAt P w K mg base lv x Φ := by
  obtain ⟨f, h1, h2, h3⟩ := h.ex
  exact ⟨f, h1, h2, h3.mono hl⟩
theorem tab_nil : TabOk P w K mg base lv [] := ⟨fun x Φ h => absurd h List.not_mem_nil⟩
theorem tab_cons (h : FnAt P w K mg base l x Φ) (ht : TabOk P w K mg base lv T) (hl : l ≤ lv := by decide) : TabOk P w K mg base lv ((x, Φ) :: T) := ⟨fun y Ψ hm => by
  rcases List.mem_cons.mp hm with e | hm
  · cases e
    exact (h.mono hl).ex
  · exact ht.at_ y Ψ hm⟩
end
end PW

set_option Elab.async false
set_option linter.all false
set_option maxRecDepth 100000
set_option maxHeartbeats 1000000
/-! list(zip(x, y)): the pairs stay out -/
namespace PySem.W
open PySem PySem.Calls PyProof.Rows PyProof.V PySem.Spec
theorem pw_nolen_zip : typeLookup (.type "zip") "__len__" = pure none := by rw [typeLookup_type, builtinLookup_eq_fast]; kernel_rfl
theorem pw_nohint_zip : typeLookup (.type "zip") "__length_hint__" = pure none := by rw [typeLookup_type, builtinLookup_eq_fast]; kernel_rfl
section
variable {prog : Program} {w : World} {A : Around} {E : Value → Shared → Prop} {s : Shared} {z TI TO i1 i2 T : Addr} {fp1 fp2 : List Addr} {n1 n2 i : Nat} {P1 P2 : Nat → Value → Prop} {St1 St2 : Nat → Heap → Prop} {f : Bool} {oT : Obj}
theorem pw_zipH_item {Q : Value → Shared → Prop} (S : ZipSep2 z TI TO i1 i2 fp1 fp2) (D1 : Draws prog w A i1 fp1 n1 P1 St1) (D2 : Draws prog w A i2 fp2 n2 P2 St2)
    (hz : IsZipHeld s.heap z TI TO T f) (hT : s.heap.get? T = some oT) (hTI : IsTupOf2 s.heap TI (.ref i1) (.ref i2)) (st1 : St1 i s.heap) (st2 : St2 i s.heap) (hlt1 : i < n1) (hlt2 : i < n2)
    (hQ : ∀ x1 x2 h' tk, P1 i x1 → P2 i x2 → IsZipHeld h' z TI TO T true → St1 (i + 1) h' → St2 (i + 1) h' → IsTupOf2 h' s.heap.objs.size x1 x2 →
      (∀ c o, c ≠ z → c ≠ i1 → c ≠ i2 → s.heap.get? c = some o → h'.get? c = some o) → Q (.ref s.heap.objs.size) { s with heap := h', toks := tk }) :
    wpAny (model prog w) A (Builtin.«zip.__next__» ⟨[.ref z], []⟩) (fun fin s' => ∃ v, fin = .done (.ret v) ∧ Q v s') E s := by
  obtain ⟨hp, g, d, tk0, os⟩ := s
  show wpAny _ _ (field (.ref z) 2 >>= _) _ _ _
  refine wpAny_bind (wpAny_field hz rfl (x := .bool false) rfl ?_)
  show wpAny _ _ (field (.ref z) 3 >>= _) _ _ _
  refine wpAny_bind (wpAny_field hz rfl (x := .ref TI) rfl ?_)
  refine wpAny_bind (wpAny_seqItems hTI rfl ?_)
  show wpAny _ _ (Builtin.SmallTypes.ownedTupleIsFree (.ref z) >>= _) _ _ _
  refine wpAny_bind (wpAny_tupleHeld_zip hz hT fun g0 hz0 hs0 => ?_)
  replace hs0 : Heap.SameBut z hp g0 := hs0
  simp only [Bool.false_eq_true, if_false]
  refine wpAny_bind ?_
  rw [← Array.forIn_toList]
  simp only [List.forIn_cons, List.forIn_nil]
  refine wpAny_bind (wpAny_bind (wpAny_holding ?_))
  show wpAny _ _ (Builtin.SmallTypes.nextOf (.ref i1) >>= _) _ _ ⟨g0, g, d, tk0, os⟩
  refine wpAny_bind (D1.item i _ _ _ hlt1 (D1.over st1 hs0 S.zf1) fun x1 p1 tk1 hx1 sn1 hp1 => wpAny_pure ?_)
  replace hp1 : Heap.SameBut i1 g0 p1 := hp1
  refine wpAny_pure ?_
  refine wpAny_bind (wpAny_bind (wpAny_holding ?_))
  show wpAny _ _ (Builtin.SmallTypes.nextOf (.ref i2) >>= _) _ _ ⟨p1, g, d, tk1, os⟩
  refine wpAny_bind (D2.item i _ _ _ hlt2 (D2.over (D2.over st2 hs0 S.zf2) hp1 S.sep1_2) fun x2 p2 tk2 hx2 sn2 hp2 => wpAny_pure ?_)
  replace hp2 : Heap.SameBut i2 p1 p2 := hp2
  refine wpAny_pure (wpAny_pure ?_)
  show wpAny _ _ (newTuple [x1, x2] >>= _) _ _ ⟨p2, g, d, tk2, os⟩
  refine wpAny_bind (wpAny_newTuple ?_)
  have hsz : p2.objs.size = hp.objs.size := by rw [hp2.1, hp1.1, hs0.1]
  have hzz : IsZipHeld p2 z TI TO T true := hp2.extBut _ _ S.zi2 (hp1.extBut _ _ S.zi1 hz0)
  have hk : ∀ c o, c ≠ z → c ≠ i1 → c ≠ i2 → hp.get? c = some o → p2.get? c = some o := fun c o c1 c2 c3 e => hp2.extBut _ _ c3 (hp1.extBut _ _ c2 (hs0.extBut _ _ c1 e))
  have hj1 : St1 (i + 1) p2 := D1.over sn1 hp2 S.sep2_1
  refine wpAny_pure ⟨_, rfl, ?_⟩
  show Q (.ref p2.objs.size) ⟨p2.push { cls := .type "tuple", data := .seq #[x1, x2] }, g, d, tk2, os⟩
  have hpp : IsTupOf2 (p2.push { cls := .type "tuple", data := .seq #[x1, x2] }) p2.objs.size x1 x2 := Heap.get?_push_size _ rfl
  have up : ∀ c o, p2.get? c = some o → (p2.push { cls := .type "tuple", data := .seq #[x1, x2] }).get? c = some o := fun c o e => Heap.get?_push_of_some _ e
  rw [hsz] at hpp ⊢
  exact hQ x1 x2 _ tk2 hx1 hx2 (up _ _ hzz) (D1.frame _ _ _ hj1 fun b _ o e => up b o e) (D2.frame _ _ _ sn2 fun b _ o e => up b o e) hpp fun c o c1 c2 c3 e => up _ _ (hk c o c1 c2 c3 e)
theorem pw_zipH_end {Q : Fin → Shared → Prop} (S : ZipSep2 z TI TO i1 i2 fp1 fp2) (D1 : Draws prog w A i1 fp1 n1 P1 St1) (D2 : Draws prog w A i2 fp2 n2 P2 St2)
    (hz : IsZipHeld s.heap z TI TO T f) (hT : s.heap.get? T = some oT) (hTI : IsTupOf2 s.heap TI (.ref i1) (.ref i2)) (st1 : St1 i s.heap) (st2 : St2 i s.heap) (hle1 : i ≤ n1) (hle2 : i ≤ n2) (hend : i = n1 ∨ i = n2)
    (hE : ∀ h' tk e, (∀ c o, c ≠ z → c ≠ i1 → c ≠ i2 → s.heap.get? c = some o → h'.get? c = some o) → (∃ o, h'.get? e = some o ∧ o.cls = .type "StopIteration") → E (.ref e) { s with heap := h', toks := tk }) :
    wpAny (model prog w) A (Builtin.«zip.__next__» ⟨[.ref z], []⟩) Q E s := by
  obtain ⟨hp, g, d, tk0, os⟩ := s
  show wpAny _ _ (field (.ref z) 2 >>= _) _ _ _
  refine wpAny_bind (wpAny_field hz rfl (x := .bool false) rfl ?_)
  show wpAny _ _ (field (.ref z) 3 >>= _) _ _ _
  refine wpAny_bind (wpAny_field hz rfl (x := .ref TI) rfl ?_)
  refine wpAny_bind (wpAny_seqItems hTI rfl ?_)
  show wpAny _ _ (Builtin.SmallTypes.ownedTupleIsFree (.ref z) >>= _) _ _ _
  refine wpAny_bind (wpAny_tupleHeld_zip hz hT fun g0 hz0 hs0 => ?_)
  replace hs0 : Heap.SameBut z hp g0 := hs0
  simp only [Bool.false_eq_true, if_false]
  refine wpAny_bind ?_
  rw [← Array.forIn_toList]
  simp only [List.forIn_cons, List.forIn_nil]
  refine wpAny_bind (wpAny_bind (wpAny_holding ?_))
  show wpAny _ _ (Builtin.SmallTypes.nextOf (.ref i1) >>= _) _ _ ⟨g0, g, d, tk0, os⟩
  by_cases hlt1 : i < n1
  · refine wpAny_bind (D1.item i _ _ _ hlt1 (D1.over st1 hs0 S.zf1) fun x1 p1 tk1 hx1 sn1 hp1 => wpAny_pure ?_)
    replace hp1 : Heap.SameBut i1 g0 p1 := hp1
    have hi2 : i = n2 := by omega
    refine wpAny_pure ?_
    refine wpAny_bind (wpAny_bind (wpAny_holding ?_))
    show wpAny _ _ (Builtin.SmallTypes.nextOf (.ref i2) >>= _) _ _ ⟨p1, g, d, tk1, os⟩
    refine wpAny_bind (D2.done ⟨p1, g, d, tk1, os⟩ _ _ (by rw [← hi2]; exact D2.over (D2.over st2 hs0 S.zf2) hp1 S.sep1_2) fun q e hq he => ?_)
    exact hE q tk1 e (fun c o cz c1 c2 x => hq _ _ c2 (hp1.extBut _ _ c1 (hs0.extBut _ _ cz x))) he
  · have hi1 : i = n1 := by omega
    refine wpAny_bind (D1.done ⟨g0, g, d, tk0, os⟩ _ _ (by rw [← hi1]; exact D1.over st1 hs0 S.zf1) fun q e hq he => ?_)
    exact hE q tk0 e (fun c o cz c1 c2 x => hq _ _ c1 (hs0.extBut _ _ cz x)) he
/-- the zip at turn i -/
structure PwZ (S : ZipSep2 z TI TO i1 i2 fp1 fp2) (St1 St2 : Nat → Heap → Prop) (i : Nat) (h : Heap) : Prop where
  ti : IsTupOf2 h TI (.ref i1) (.ref i2)
  s1 : St1 i h
  s2 : St2 i h
  to : ∃ o, h.get? TO = some o
  z : (IsZip h z TI TO .none ∧ ∃ a b, IsTupOf2 h TO a b) ∨ ∃ T f oT, IsZipHeld h z TI TO T f ∧ h.get? T = some oT ∧ oT.cls = .type "tuple" ∧ T ≠ z ∧ T ≠ i1 ∧ T ≠ i2 ∧ T ≠ TO
theorem PwZ.ty {S : ZipSep2 z TI TO i1 i2 fp1 fp2} (x : PwZ S St1 St2 i s.heap) : s.TypeIs (.ref z) "zip" := by
  rcases x.z with ⟨h, _⟩ | ⟨T, f, oT, h, _⟩
  · exact ⟨_, h, rfl⟩
  · exact ⟨_, h, rfl⟩
/-- another object changes, a list -/
theorem PwZ.over {S : ZipSep2 z TI TO i1 i2 fp1 fp2} (D1 : Draws prog w A i1 fp1 n1 P1 St1) (D2 : Draws prog w A i2 fp2 n2 P2 St2) {h h' : Heap} {L : Addr} {oL : Obj} (x : PwZ S St1 St2 i h) (hL : h.get? L = some oL) (hc : oL.cls = .type "list") (l1 : L ∉ fp1) (l2 : L ∉ fp2) (lz : L ≠ z) (lTI : L ≠ TI) (lTO : L ≠ TO)
    (k : ∀ b o, b ≠ L → h.get? b = some o → h'.get? b = some o) : PwZ S St1 St2 i h' := by
  refine ⟨k _ _ lTI.symm x.ti, D1.frame _ _ _ x.s1 fun b hb o e => k b o (fun q => l1 (q ▸ hb)) e, D2.frame _ _ _ x.s2 fun b hb o e => k b o (fun q => l2 (q ▸ hb)) e, let ⟨o, e⟩ := x.to; ⟨o, k _ _ lTO.symm e⟩, ?_⟩
  rcases x.z with ⟨hz, a, b, hTO⟩ | ⟨T, f, oT, hz, hT, hcT, r1, r2, r3, r4⟩
  · exact .inl ⟨k _ _ lz.symm hz, a, b, k _ _ lTO.symm hTO⟩
  · refine .inr ⟨T, f, oT, k _ _ lz.symm hz, k _ _ (fun q => ?_) hT, hcT, r1, r2, r3, r4⟩
    rw [q, hL] at hT
    cases hT
    rw [hc] at hcT
    exact absurd (Value.type.inj hcT) (by decide)
theorem PwZ.keep {S : ZipSep2 z TI TO i1 i2 fp1 fp2} (D1 : Draws prog w A i1 fp1 n1 P1 St1) (D2 : Draws prog w A i2 fp2 n2 P2 St2) {h h' : Heap} (x : PwZ S St1 St2 i h)
    (k : ∀ b o, h.get? b = some o → h'.get? b = some o) : PwZ S St1 St2 i h' := by
  refine ⟨k _ _ x.ti, D1.frame _ _ _ x.s1 fun b hb o e => k b o e, D2.frame _ _ _ x.s2 fun b hb o e => k b o e, let ⟨o, e⟩ := x.to; ⟨o, k _ _ e⟩, ?_⟩
  rcases x.z with ⟨hz, a, b, hTO⟩ | ⟨T, f, oT, hz, hT, hcT, r⟩
  · exact .inl ⟨k _ _ hz, a, b, k _ _ hTO⟩
  · exact .inr ⟨T, f, oT, k _ _ hz, k _ _ hT, hcT, r⟩
theorem pw_zip_item {Q : Option Value → Shared → Prop} (S : ZipSep2 z TI TO i1 i2 fp1 fp2) (D1 : Draws prog w A.in1 i1 fp1 n1 P1 St1) (D2 : Draws prog w A.in1 i2 fp2 n2 P2 St2) (x : PwZ S St1 St2 i s.heap) (hlt1 : i < n1) (hlt2 : i < n2)
    (hQ : ∀ x1 x2 h' tk, P1 i x1 → P2 i x2 → PwZ S St1 St2 (i + 1) h' → IsTupOf2 h' s.heap.objs.size x1 x2 → (∀ c o, c ≠ z → c ≠ TO → c ≠ i1 → c ≠ i2 → s.heap.get? c = some o → h'.get? c = some o) → Q (some (.ref s.heap.objs.size)) { s with heap := h', toks := tk }) :
    wpAny (model prog w) A (pyNext (.ref z)) Q E s := by
  have hTy := x.ty
  have lt : ∀ {c o}, s.heap.get? c = some o → s.heap.objs.size ≠ c := fun e => Nat.ne_of_gt (Heap.lt_size e)
  have n1' : s.heap.objs.size ≠ i1 := by obtain ⟨_, e⟩ := D1.live _ _ x.s1; exact lt e
  have n2' : s.heap.objs.size ≠ i2 := by obtain ⟨_, e⟩ := D2.live _ _ x.s2; exact lt e
  rcases x.z with ⟨hz, a, b, hTO⟩ | ⟨T, f, oT, hz, hT, hcT, r1, r2, r3, r4⟩
  · refine wpAny_pyNext_zipD2_item S D1 D2 hz x.ti hTO x.s1 x.s2 hlt1 hlt2 fun x1 x2 h' tk p1 p2 hz' hTO' s1' s2' hT' hsz hk => ?_
    exact hQ x1 x2 h' tk p1 p2 ⟨hk _ _ S.TIz S.TITO S.TIi1 S.TIi2 x.ti, s1', s2', ⟨_, hTO'⟩, .inr ⟨_, false, _, hz', hT', rfl, lt hz, n1', n2', lt hTO⟩⟩ hT' hk
  · unfold pyNext
    refine wpAny_bind (wpAny_attempt (wpAny_callSpecial?_slot (name := Str.ofString "__next__") hTy F.slot_zip_next
      (wpAny_call_entry F.slot_zip_next hTy F.entry_zip_next (pw_zipH_item S D1 D2 hz hT x.ti x.s1 x.s2 hlt1 hlt2 fun x1 x2 h' tk p1 p2 hz' s1' s2' hT' hk => wpAny_pure ?_) (F.args_zip_next_1 _))))
    exact hQ x1 x2 h' tk p1 p2 ⟨hk _ _ S.TIz S.TIi1 S.TIi2 x.ti, s1', s2', (let ⟨o, e⟩ := x.to; ⟨o, hk _ _ S.TOz S.Ti1 S.Ti2 e⟩), .inr ⟨T, true, oT, hz', hk _ _ r1 r2 r3 hT, hcT, r1, r2, r3, r4⟩⟩ hT' fun c o c1 _ c3 c4 e => hk c o c1 c3 c4 e
theorem pw_zip_end {Q : Option Value → Shared → Prop} (S : ZipSep2 z TI TO i1 i2 fp1 fp2) (D1 : Draws prog w A.in1 i1 fp1 n1 P1 St1) (D2 : Draws prog w A.in1 i2 fp2 n2 P2 St2) (x : PwZ S St1 St2 i s.heap) (hle1 : i ≤ n1) (hle2 : i ≤ n2) (hend : i = n1 ∨ i = n2)
    (hQ : ∀ h' tk, (∀ c o, c ≠ z → c ≠ TO → c ≠ i1 → c ≠ i2 → s.heap.get? c = some o → h'.get? c = some o) → Q none { s with heap := h', toks := tk }) :
    wpAny (model prog w) A (pyNext (.ref z)) Q E s := by
  have hTy := x.ty
  rcases x.z with ⟨hz, a, b, hTO⟩ | ⟨T, f, oT, hz, hT, hcT, r1, r2, r3⟩
  · exact wpAny_pyNext_zipD2_end S D1 D2 hz x.ti hTO x.s1 x.s2 hle1 hle2 hend hQ
  · unfold pyNext
    refine wpAny_bind (wpAny_attempt (wpAny_callSpecial?_slot (name := Str.ofString "__next__") hTy F.slot_zip_next
      (wpAny_call_entry F.slot_zip_next hTy F.entry_zip_next (pw_zipH_end S D1 D2 hz hT x.ti x.s1 x.s2 hle1 hle2 hend fun h' tk e hk he => ?_) (F.args_zip_next_1 _))))
    obtain ⟨o, ho, hc⟩ := he
    refine wpAny_bind (wpAny_isInstance (T := "StopIteration") (b := true) ⟨o, ho, hc⟩ isSubtype_stop ?_)
    exact wpAny_pure (hQ _ _ fun c o c1 _ c3 c4 e => hk c o c1 c3 c4 e)
/-- the pairs that lie in the list -/
def PwPairs (P1 P2 : Nat → Value → Prop) (h : Heap) (acc : List Value) : Prop := ∀ j v, acc[j]? = some v → ∃ T x1 x2, v = .ref T ∧ P1 j x1 ∧ P2 j x2 ∧ IsTupOf2 h T x1 x2
theorem pw_zip_loop {R : Result → Shared → Prop} (S : ZipSep2 z TI TO i1 i2 fp1 fp2) {L : Addr} (D1 : Draws prog w A.in1.in1 i1 fp1 n1 P1 St1) (D2 : Draws prog w A.in1.in1 i2 fp2 n2 P2 St2) (hn : min n1 n2 ≤ sizeLine) (l1 : L ∉ fp1) (l2 : L ∉ fp2) (lz : L ≠ z) (lTI : L ≠ TI) (lTO : L ≠ TO) (res : Value) (h0 : Heap)
    (hw : ∀ b o, h0.get? b = some o → b ≠ L ∧ b ≠ z ∧ b ≠ TO ∧ b ≠ i1 ∧ b ≠ i2) :
    ∀ (k i : Nat) (s : Shared) (acc : Array Value) (c : Nat), min n1 n2 - i = k → i ≤ min n1 n2 → PwZ S St1 St2 i s.heap → s.heap.get? L = some { cls := .type "list", dict := none, data := .seq acc c, slots := #[] } → acc.size = i →
      PwPairs P1 P2 s.heap acc.toList → (∀ v ∈ acc.toList, ∀ T, v = .ref T → T ≠ L ∧ T ≠ z ∧ T ≠ TO ∧ T ≠ i1 ∧ T ≠ i2 ∧ L < T) → acc.toList.Nodup → (∀ b o, h0.get? b = some o → s.heap.get? b = some o) →
      (∀ h' tk acc' c', (∀ b o, h0.get? b = some o → h'.get? b = some o) → h'.get? L = some { cls := .type "list", dict := none, data := .seq acc' c', slots := #[] } → acc'.size = min n1 n2 → PwPairs P1 P2 h' acc'.toList → acc'.toList.Nodup → (∀ v ∈ acc'.toList, ∀ T, v = .ref T → L < T) → R (.ok (.ret res)) { s with heap := h', toks := tk }) →
      codeAny (model prog w) A (.builtin "list.extend.loop" ⟨[.ref L, .ref z, res], []⟩) R s := by
  intro k
  induction k with
  | zero =>
    intro i s acc c hk hi x hL hacc hp hne hnd h0k hR
    have hin : i = min n1 n2 := by omega
    refine codeAny_builtin F.entry_extend_loop ?_
    rw [Around.under_plainId F.plain_extend_loop _]
    show wpAny _ A.in1 (pyNext (.ref z) >>= _) _ _ s
    refine wpAny_bind (pw_zip_end S D1 D2 x (by omega) (by omega) (by omega) fun h' tk hk => wpAny_pure (hR h' tk acc c (fun b o e => ?_) (hk _ _ lz lTO (fun q => ?_) (fun q => ?_) hL) (by rw [hacc, hin]) (fun j v e => ?_) hnd fun v hv T e => (hne v hv T e).2.2.2.2.2))
    · obtain ⟨_, a2, a3, a4, a5⟩ := hw b o e
      exact hk b o a2 a3 a4 a5 (h0k b o e)
    · exact l1 (q ▸ S.mem1)
    · exact l2 (q ▸ S.mem2)
    · obtain ⟨T, x1, x2, rfl, p1, p2, hT⟩ := hp j v e
      obtain ⟨_, a2, a3, a4, a5, _⟩ := hne _ (List.mem_of_getElem? e) T rfl
      exact ⟨T, x1, x2, rfl, p1, p2, hk _ _ a2 a3 a4 a5 hT⟩
  | succ k ih =>
    intro i s acc c hk hi x hL hacc hp hne hnd h0k hR
    have hlt : i < min n1 n2 := by omega
    refine codeAny_builtin F.entry_extend_loop ?_
    rw [Around.under_plainId F.plain_extend_loop _]
    show wpAny _ A.in1 (pyNext (.ref z) >>= _) _ _ s
    refine wpAny_bind (pw_zip_item S D1 D2 x (by omega) (by omega) fun x1 x2 h' tk p1 p2 x' hT hk => ?_)
    have lt : ∀ {c o}, s.heap.get? c = some o → s.heap.objs.size ≠ c := fun e => Nat.ne_of_gt (Heap.lt_size e)
    have hLi1 : L ≠ i1 := fun q => l1 (q ▸ S.mem1)
    have hLi2 : L ≠ i2 := fun q => l2 (q ▸ S.mem2)
    have hL' : h'.get? L = some { cls := .type "list", dict := none, data := .seq acc c, slots := #[] } := hk _ _ lz lTO hLi1 hLi2 hL
    have hTL : s.heap.objs.size ≠ L := lt hL
    show wpAny _ A.in1 (updateSeq L (·.push (.ref s.heap.objs.size)) >>= _) _ _ _
    refine wpAny_bind ?_
    refine wpAny_updateSeq (s := { s with heap := h', toks := tk }) hL' rfl (wpAny_pure ⟨plainId_quiet F.plain_extend_loop _, ih (i + 1) _ (acc.push (.ref s.heap.objs.size)) _ (by omega) hlt
      (x'.over D1 D2 hL' rfl l1 l2 lz lTI lTO fun b o hb e => (Heap.get?_update_other _ _ (Ne.symm hb)).trans e) (Heap.get?_update_self _ hL' rfl) (by rw [Array.size_push, hacc]) (fun j v e => ?_) (fun v hv T eT => ?_) (by rw [Array.toList_push]; exact List.nodup_append.mpr ⟨hnd, by simp, fun a ha b hb e => by
        rw [List.mem_singleton.mp hb] at e
        subst e
        obtain ⟨j, hj⟩ := List.mem_iff_getElem?.mp ha
        obtain ⟨T, y1, y2, eT, _, _, hT'⟩ := hp j _ hj
        cases eT
        exact Nat.lt_irrefl _ (Heap.lt_size hT')⟩) (fun b o e => ?_) fun h'' tk'' acc' c' a1 a2 a3 a4 a5 a6 => hR h'' tk'' acc' c' a1 a2 a3 a4 a5 a6⟩)
      (by rw [hacc]; omega) (by show (acc.push _).size ≤ sizeLine + 1; rw [Array.size_push, hacc]; omega)
    · rw [Array.toList_push] at e
      have e3 : acc.toList.length = i := by rw [Array.length_toList, hacc]
      by_cases hj : j < acc.toList.length
      · rw [List.getElem?_append_left hj] at e
        obtain ⟨T, y1, y2, rfl, q1, q2, hT'⟩ := hp j v e
        obtain ⟨a1, a2, a3, a4, a5, _⟩ := hne _ (List.mem_of_getElem? e) T rfl
        exact ⟨T, y1, y2, rfl, q1, q2, (Heap.get?_update_other _ _ (Ne.symm a1)).trans (hk _ _ a2 a3 a4 a5 hT')⟩
      · rw [List.getElem?_append_right (by omega)] at e
        have hj0 : j - acc.toList.length = 0 := by
          cases q : j - acc.toList.length with
          | zero => rfl
          | succ m => rw [q] at e; simp at e
        rw [hj0] at e
        have ev : v = .ref s.heap.objs.size := by simpa using e.symm
        have ej : j = i := by omega
        subst ev
        subst ej
        exact ⟨_, x1, x2, rfl, p1, p2, (Heap.get?_update_other _ _ (Ne.symm hTL)).trans hT⟩
    · rw [Array.toList_push] at hv
      rcases List.mem_append.mp hv with hv | hv
      · exact hne v hv T eT
      · have ev : v = .ref s.heap.objs.size := by simpa using hv
        rw [ev] at eT
        cases eT
        have n1' : s.heap.objs.size ≠ i1 := by obtain ⟨_, e⟩ := D1.live _ _ x.s1; exact lt e
        have n2' : s.heap.objs.size ≠ i2 := by obtain ⟨_, e⟩ := D2.live _ _ x.s2; exact lt e
        obtain ⟨oTO, hTO⟩ := x.to
        rcases x.z with ⟨hz, _⟩ | ⟨T, f, oT, hz, _⟩
        · exact ⟨hTL, lt hz, lt hTO, n1', n2', Heap.lt_size hL⟩
        · exact ⟨hTL, lt hz, lt hTO, n1', n2', Heap.lt_size hL⟩
    · obtain ⟨a1, a2, a3, a4, a5⟩ := hw b o e
      exact (Heap.get?_update_other _ _ (Ne.symm a1)).trans (hk b o a2 a3 a4 a5 (h0k b o e))
/-- list(z), z such a zip at its begin; all that stood at h0 stays -/
theorem pw_list_zip {Q : Value → Shared → Prop} (hh : A.handled = none) (S : ZipSep2 z TI TO i1 i2 fp1 fp2) (D1 : Draws prog w A.in1.in1.in1 i1 fp1 n1 P1 St1) (D2 : Draws prog w A.in1.in1.in1 i2 fp2 n2 P2 St2) (hn : min n1 n2 ≤ sizeLine) (x : PwZ S St1 St2 0 s.heap) (hz0 : IsZip s.heap z TI TO .none) (h0 : Heap)
    (hw : ∀ b o, h0.get? b = some o → b ≠ z ∧ b ≠ TO ∧ b ≠ i1 ∧ b ≠ i2) (hk0 : ∀ b o, h0.get? b = some o → s.heap.get? b = some o) (hf : ∀ b ∈ fp1 ++ fp2, b < s.heap.objs.size)
    (hQ : ∀ h' tk acc' c', (∀ b o, h0.get? b = some o → h'.get? b = some o) → h'.get? s.heap.objs.size = some { cls := .type "list", dict := none, data := .seq acc' c', slots := #[] } → acc'.size = min n1 n2 → PwPairs P1 P2 h' acc'.toList → acc'.toList.Nodup → (∀ v ∈ acc'.toList, ∀ T, v = .ref T → s.heap.objs.size < T) → Q (.ref s.heap.objs.size) { s with heap := h', toks := tk }) :
    wpAny (model prog w) A (call (.type "list") [.ref z]) Q E s := by
  refine callType_codes (Q₁ := fun obj s₁ => obj = .ref s.heap.objs.size ∧ s₁ = { s with heap := s.heap.push { cls := .type "list", data := .seq #[] } }) PySem.F.called_list (PySem.F.typeCall_list_1 _) PySem.F.entry_list_init
    (code_list_new _ ⟨rfl, rfl⟩) fun obj s₁ h₁ => ?_
  obtain ⟨rfl, rfl⟩ := h₁
  have lt : ∀ {c o}, s.heap.get? c = some o → s.heap.objs.size ≠ c := fun e => Nat.ne_of_gt (Heap.lt_size e)
  have hS : (s.heap.push { cls := .type "list", data := .seq #[] }).get? s.heap.objs.size = some { cls := .type "list", data := .seq #[] } := Heap.get?_push_size _ rfl
  have l1 : s.heap.objs.size ∉ fp1 := fun m => Nat.lt_irrefl _ (hf _ (List.mem_append_left _ m))
  have l2 : s.heap.objs.size ∉ fp2 := fun m => Nat.lt_irrefl _ (hf _ (List.mem_append_right _ m))
  have lTI : s.heap.objs.size ≠ TI := lt x.ti
  obtain ⟨oTO, hTO⟩ := x.to
  have lTO : s.heap.objs.size ≠ TO := lt hTO
  have lz : s.heap.objs.size ≠ z := by
    rcases x.z with ⟨hz, _⟩ | ⟨T, f, oT, hz, _⟩
    · exact lt hz
    · exact lt hz
  have x1 : PwZ S St1 St2 0 (s.heap.push { cls := .type "list", data := .seq #[] }) := x.keep D1 D2 fun b o e => Heap.get?_push_of_some _ e
  refine ⟨⟨_, hS, rfl⟩, PySem.F.args_list_init_2 _ _, ?_⟩
  show wpAny _ _ (do let old ← Builtin.List.listItems (.ref s.heap.objs.size); Builtin.List.listUpdate (.ref s.heap.objs.size) (fun _ => #[]); letGo old.toList.reverse; Builtin.List.listExtendWith (.ref s.heap.objs.size) (.ref z) .none) _ _ { s with heap := s.heap.push { cls := .type "list", data := .seq #[] } }
  refine wpAny_bind ?_
  unfold Builtin.List.listItems
  refine wpAny_bind (wpAny_seqItems hS rfl (wpAny_pure ?_))
  show wpAny _ _ (updateSeq s.heap.objs.size (fun _ => #[]) >>= fun _ => letGo (#[] : Array Value).toList.reverse >>= fun _ => Builtin.List.listExtendWith (.ref s.heap.objs.size) (.ref z) .none) _ _ { s with heap := s.heap.push { cls := .type "list", data := .seq #[] } }
  refine wpAny_bind (wpAny_updateSeq hS rfl ?_)
  have hS₂ := Heap.get?_update_self (Obj.mapSeq (fun _ => (#[] : Array Value))) hS rfl
  have oth : ∀ b o, b ≠ s.heap.objs.size → (s.heap.push { cls := .type "list", data := .seq #[] }).get? b = some o → ((s.heap.push { cls := .type "list", data := .seq #[] }).update s.heap.objs.size (Obj.mapSeq (fun _ => (#[] : Array Value)))).get? b = some o :=
    fun b o hb e => (Heap.get?_update_other _ _ (Ne.symm hb)).trans e
  have x2 := x1.over D1 D2 hS rfl l1 l2 lz lTI lTO oth
  refine wpAny_bind (wpAny_letGo ?_)
  unfold Builtin.List.listExtendWith
  refine wpAny_bind (wpAny_typeOf (T := "zip") x2.ty ?_)
  have h1 : Builtin.List.listSameRef (.ref s.heap.objs.size) (.ref z) = false := by simp [Builtin.List.listSameRef, lz]
  have h2 : (Value.type "zip" == Value.type "list") = false := by decide
  have h3 : (Value.type "zip" == Value.type "tuple") = false := by decide
  simp only [h1, h2, h3, Bool.or_false, Bool.false_eq_true, if_false]
  have key : ∀ (h : Heap) (c₁ tk : Nat), PwZ S St1 St2 0 h → (∀ b o, b ≠ s.heap.objs.size → s.heap.get? b = some o → h.get? b = some o) →
      h.get? s.heap.objs.size = some { cls := .type "list", data := .seq #[] c₁ } → ∀ R : Result → Shared → Prop, (∀ h' tk acc' c', (∀ b o, h0.get? b = some o → h'.get? b = some o) → h'.get? s.heap.objs.size = some { cls := .type "list", dict := none, data := .seq acc' c', slots := #[] } → acc'.size = min n1 n2 → PwPairs P1 P2 h' acc'.toList → acc'.toList.Nodup → (∀ v ∈ acc'.toList, ∀ T, v = .ref T → s.heap.objs.size < T) → R (.ok (.ret .none)) { s with heap := h', toks := tk }) →
      codeAny (model prog w) A.in1 (.builtin "list.extend.loop" ⟨[.ref s.heap.objs.size, .ref z, .none], []⟩) R { s with heap := h, toks := tk } := fun h c₁ tk xh hkh hSh R hR => by
    refine pw_zip_loop (A := A.in1) S D1 D2 hn l1 l2 lz lTI lTO .none h0 (fun b o e => ⟨(Nat.ne_of_lt (Heap.lt_size (hk0 b o e))), hw b o e⟩) _ 0 { s with heap := h, toks := tk } #[] c₁ rfl (Nat.zero_le _) xh hSh rfl (fun j v e => by simp at e) (fun v hv => by simp at hv) (by simp) (fun b o e => hkh b o (Nat.ne_of_lt (Heap.lt_size (hk0 b o e))) (hk0 b o e)) hR
  have hz2 : IsZip ((s.heap.push { cls := .type "list", data := .seq #[] }).update s.heap.objs.size (Obj.mapSeq (fun _ => (#[] : Array Value)))) z TI TO .none := oth _ _ lz.symm (Heap.get?_push_of_some _ hz0)
  refine wpAny_bind (wpAny_pyIter_zip hz2 ?_)
  refine wpAny_bind (wpAny_holding ?_)
  unfold Builtin.List.listLengthHint
  refine wpAny_bind (wpAny_specialOf x2.ty pw_nolen_zip ?_)
  show wpAny _ _ (specialOf (Value.ref z) (Str.ofString "__length_hint__") >>= _) _ _ _
  refine wpAny_bind (wpAny_specialOf x2.ty pw_nohint_zip ?_)
  refine wpAny_pure ?_
  show wpAny _ _ (rule "list.extend.makes-room" >>= fun _ => Builtin.List.listTouch (.ref s.heap.objs.size) >>= fun _ =>
    again (.builtin "list.extend.loop" ⟨[.ref s.heap.objs.size, .ref z, .none], []⟩)) _ _ _
  refine wpAny_bind (wpAny_rule ?_)
  refine wpAny_bind ?_
  show wpAny _ _ (updateSeq s.heap.objs.size (·.push .none) >>= fun _ => updateSeq s.heap.objs.size (·.pop)) _ _ _
  refine wpAny_bind (wpAny_updateSeq hS₂ rfl ?_)
  have hS₃ := Heap.get?_update_self (Obj.mapSeq (·.push Value.none)) hS₂ rfl
  refine wpAny_updateSeq hS₃ rfl ?_
  have hS₄ := Heap.get?_update_self (Obj.mapSeq (·.pop)) hS₃ rfl
  have oth2 : ∀ b o, b ≠ s.heap.objs.size → ((s.heap.push { cls := .type "list", data := .seq #[] }).update s.heap.objs.size (Obj.mapSeq (fun _ => (#[] : Array Value)))).get? b = some o →
      ((((s.heap.push { cls := .type "list", data := .seq #[] }).update s.heap.objs.size (Obj.mapSeq (fun _ => (#[] : Array Value)))).update s.heap.objs.size (Obj.mapSeq (·.push Value.none))).update s.heap.objs.size (Obj.mapSeq (·.pop))).get? b = some o :=
    fun b o hb e => (Heap.get?_update_other _ _ (Ne.symm hb)).trans ((Heap.get?_update_other _ _ (Ne.symm hb)).trans e)
  refine wpAny_pure ⟨plainId_quiet F.plain_extend_loop _, key _ _ s.toks (x2.over D1 D2 hS₂ rfl l1 l2 lz lTI lTO oth2) (fun b o hb e => oth2 b o hb (oth b o hb (Heap.get?_push_of_some _ e))) hS₄ _ fun h' tk acc' c' a1 a2 a3 a4 a5 a6 => ?_⟩
  exact ⟨rfl, hQ h' tk acc' c' a1 a2 a3 a4 a5 a6⟩
end
end PySem.W
namespace PW
open PySem PySem.Spec PyProof.Rows L2
/-- several new objects -/
theorem Step.grow {K : PySem.W.Frag} {z : Z} {H H2 : Hp} (ok : ZOk K z H) (g : ∀ b o, H b = some o → H2 b = some o) (L : List Addr) (hL : ∀ b ∈ L, H b = none) : ∃ z', Step K z H z' H2 ∧ ∀ b ∈ L, ∀ o, H2 b = some o → z'.f b = some o := by
  refine ⟨⟨fun b => if b ∈ L then H2 b else z.f b, z.β⟩, ⟨⟨fun b o e => ?_, fun _ e => e⟩, ⟨fun b o e => ?_, ok.bag.keep (fun b o e => ?_) rfl (fun a e => ?_) fun a o _ e => g a o e⟩, fun b o _ e => g b o e, fun b o h1 h2 _ => ?_, fun b e => .inl e⟩, fun b hb o e => ?_⟩
  · show (if b ∈ L then H2 b else z.f b) = some o
    rw [if_neg (fun m => by have := hL b m; rw [ok.sub _ _ e] at this; cases this)]
    exact e
  · have e : (if b ∈ L then H2 b else z.f b) = some o := e
    by_cases m : b ∈ L
    · rw [if_pos m] at e; exact e
    · rw [if_neg m] at e; exact g _ _ (ok.sub _ _ e)
  · show (if b ∈ L then H2 b else z.f b) = some o
    rw [if_neg (fun m => by have := hL b m; rw [ok.sub _ _ e] at this; cases this)]
    exact e
  · show (if a ∈ L then H2 a else z.f a) = none
    rw [if_neg (fun m => by obtain ⟨_, _, _, _, _, _, q, _⟩ := ok.bag a e; rw [hL a m] at q; cases q)]
    exact (ok.bag a e).1
  · show (if b ∈ L then H2 b else z.f b) = none
    rw [if_neg (fun m => by rw [hL b m] at h2; cases h2)]
    exact h1
  · show (if b ∈ L then H2 b else z.f b) = some o
    rw [if_pos hb]; exact e
theorem nea {a b : Nat} (h : a < b ∨ b < a) : @Ne Addr a b := fun e => by
  have e' : @Eq Nat a b := e
  omega
theorem nin2 {x a b : Addr} (h1 : x ≠ a) (h2 : x ≠ b) : x ∉ [a, b] := fun m => by
  rcases List.mem_cons.mp m with e | m
  · exact h1 e
  · exact h2 (List.mem_singleton.mp m)
theorem zsep {n a b : Nat} (la : a < n) (lb : b < n) : ZipSep2 (n + 4) (n + 2) (n + 3) n (n + 1) [n, a] [n + 1, b] where
  TIz := nea (by omega)
  TOz := nea (by omega)
  TITO := nea (by omega)
  TIi1 := nea (by omega)
  mem1 := List.mem_cons_self
  zf1 := nin2 (nea (by omega)) (nea (by omega))
  Tf1 := nin2 (nea (by omega)) (nea (by omega))
  TIi2 := nea (by omega)
  mem2 := List.mem_cons_self
  zf2 := nin2 (nea (by omega)) (nea (by omega))
  Tf2 := nin2 (nea (by omega)) (nea (by omega))
  sep1_2 := nin2 (nea (by omega)) (nea (by omega))
  sep2_1 := nin2 (nea (by omega)) (nea (by omega))
def adr : Value → Addr
  | .ref a => a
  | _ => 0
theorem rpL_of {K : PySem.W.Frag} {mg : Str → Option Value} {z : Z} : ∀ {Ts : List Addr} {l : List D}, l.length = Ts.length → (∀ (j : Nat) (T : Addr), Ts[j]? = some T → ∃ d, l[j]? = some d ∧ Rp K mg z (.ref T) d) → RpL K mg z (Ts.map V.ref) l
  | [], [], _, _ => .nil
  | [], _ :: _, h, _ => by simp at h
  | _ :: _, [], h, _ => by simp at h
  | T :: Ts, d :: l, h, f => by
    obtain ⟨d', e, r⟩ := f 0 T rfl
    cases e
    exact .cons r (rpL_of (by simpa using h) fun j T hj => f (j + 1) T (by simpa using hj))
def rLz (K : PySem.W.Frag) : List V → Hp → VK → Prop := fun vs H1 Q => ∃ a b xs ys, vs = [V.ref a, V.ref b] ∧ ((SqL K H1 a xs ∧ SqL K H1 b ys) ∨ (SqT K H1 a xs ∧ SqT K H1 b ys)) ∧
  ∀ (H2 : Hp) (p : Addr) (Ts : List Addr), (∀ b o, H1 b = some o → H2 b = some o) → (∀ T ∈ p :: Ts, H1 T = none) → H2 p = some (.lst (Ts.map V.ref)) → Ts.length = min xs.length ys.length →
    (∀ (j : Nat) (T : Addr), Ts[j]? = some T → ∃ x y, xs[j]? = some x ∧ ys[j]? = some y ∧ H2 T = some (.tup [x, y])) → Q (.ref p) H2
theorem lz_fin {X : Cx} {pins : List (Addr × Obj)} {σ : Sg} {H : Hp} {s : Shared} {its its2 : List Value} {xs ys : List V} {a b : Addr} {Q : VK} (I : Inv X pins σ H s) (rv : Vals xs its) (rv2 : Vals ys its2) (hz : xs.length ≤ sizeLine)
    (q : ∀ (H2 : Hp) (p : Addr) (Ts : List Addr), (∀ b o, H b = some o → H2 b = some o) → (∀ T ∈ p :: Ts, H T = none) → H2 p = some (.lst (Ts.map V.ref)) → Ts.length = min xs.length ys.length →
      (∀ (j : Nat) (T : Addr), Ts[j]? = some T → ∃ x y, xs[j]? = some x ∧ ys[j]? = some y ∧ H2 T = some (.tup [x, y])) → Q (.ref p) H2) {h' : Heap} {tk : Nat} {acc : Array Value} {c : Nat} {p : Addr}
    (a1 : ∀ b o, s.heap.get? b = some o → h'.get? b = some o) (hp : s.heap.objs.size ≤ p) (a2 : h'.get? p = some { cls := .type "list", dict := none, data := .seq acc c, slots := #[] }) (a3 : acc.size = min its.toArray.size its2.toArray.size)
    (a4 : PySem.W.PwPairs (fun i v => its.toArray[i]? = some v) (fun i v => its2.toArray[i]? = some v) h' acc.toList) (a5 : acc.toList.Nodup) (a6 : ∀ v ∈ acc.toList, ∀ T, v = .ref T → p < T) : EP X pins σ Q (.ref p) { s with heap := h', toks := tk } := by
  have eT : acc.toList = (acc.toList.map adr).map Value.ref := by
    rw [List.map_map]
    conv => lhs; rw [← List.map_id acc.toList]
    refine List.map_congr_left fun v hv => ?_
    obtain ⟨j, hj⟩ := List.mem_iff_getElem?.mp hv
    obtain ⟨T, _, _, e, _⟩ := a4 j v hj
    subst e
    rfl
  generalize hTs : acc.toList.map adr = Ts at eT
  have hlen : Ts.length = min xs.length ys.length := by
    rw [← hTs, List.length_map, Array.length_toList, a3, List.size_toArray, List.size_toArray, rv.length, rv2.length]
  have nd : Ts.Nodup := by
    rw [eT] at a5
    exact List.Pairwise.of_map Value.ref (fun a b h e => h (by rw [e])) a5
  have mem : ∀ T ∈ Ts, Value.ref T ∈ acc.toList := fun T hT => by rw [eT]; exact List.mem_map.mpr ⟨T, hT, rfl⟩
  have hgt : ∀ T ∈ Ts, p < T := fun T hT => a6 _ (mem T hT) T rfl
  have I2 : Inv X pins σ H { s with heap := h', toks := tk } := I.kept (t' := tk) a1
  have hpn : H p = none := I.hok.fresh hp
  have rvT : Vals (Ts.map V.ref) acc.toList := by rw [eT]; exact vals_refs _
  have I3 : Inv X pins σ (upd H p (.lst (Ts.map V.ref))) { s with heap := h', toks := tk } :=
    I2.take (h' := h') (t' := tk) (fun b ob _ e => e) (I.fpOk hp hpn) ⟨by rw [List.length_map, hlen]; omega, acc.toList, c, rvT, by rw [Array.toArray_toList]; exact a2⟩
  have at_ : ∀ (j : Nat) (T : Addr), Ts[j]? = some T → ∃ x y x1 x2, xs[j]? = some x ∧ ys[j]? = some y ∧ RelV x x1 ∧ RelV y x2 ∧ h'.get? T = some { cls := .type "tuple", data := .seq #[x1, x2] } := fun j T hj => by
    have hj2 : acc.toList[j]? = some (.ref T) := by rw [eT, List.getElem?_map, hj]; rfl
    obtain ⟨T', x1, x2, e, p1, p2, hT⟩ := a4 j _ hj2
    cases e
    have g : ∀ {xs : List V} {its : List Value} {v : Value}, Vals xs its → its[j]? = some v → ∃ x, xs[j]? = some x ∧ RelV x v := fun {xs its v} r e => by
      have hl : xs.length = its.length := r.length
      have hi := (List.getElem?_eq_some_iff.mp e).1
      obtain ⟨u, hu, ru⟩ := r.get (List.getElem?_eq_getElem (show j < xs.length by omega))
      rw [e] at hu
      cases hu
      exact ⟨_, List.getElem?_eq_getElem (by omega), ru⟩
    obtain ⟨x, hx, rx⟩ := g rv (by simpa using p1)
    obtain ⟨y, hy, ry⟩ := g rv2 (by simpa using p2)
    exact ⟨x, y, x1, x2, hx, hy, rx, ry, hT⟩
  obtain ⟨H2, I4, gr, qt⟩ := L2.DX.takeT (P := fun T vs => ∀ (j : Nat), Ts[j]? = some T → ∃ x y, xs[j]? = some x ∧ ys[j]? = some y ∧ vs = [x, y]) I Ts _ I3 nd fun T hT => by
    obtain ⟨j, hj⟩ := List.mem_iff_getElem?.mp hT
    obtain ⟨x, y, x1, x2, hx, hy, rx, ry, hg⟩ := at_ j T hj
    have hle : s.heap.objs.size ≤ T := Nat.le_of_lt (Nat.lt_of_le_of_lt hp (hgt T hT))
    refine ⟨hle, by rw [upd_ne (Nat.ne_of_gt (hgt T hT))]; exact I.hok.fresh hle, [x, y], fun i hi => ?_, fun H3 => ⟨by rw [sizeLine_eq]; show 2 ≤ 16777216; omega, [x1, x2], .cons rx (.cons ry .nil), ⟨_, hg, rfl, _, rfl⟩⟩⟩
    have e : i = j := (List.getElem?_inj (List.getElem?_eq_some_iff.mp hi).1 nd).mp (hi.trans hj.symm)
    subst e
    exact ⟨x, y, hx, hy, rfl⟩
  refine ⟨.ref p, H2, I4, rfl, q H2 p Ts (fun b o e => gr b o (by rw [upd_ne (ne_of_none e hpn)]; exact e)) (fun T hT => ?_) (gr _ _ upd_same) hlen fun j T hj => ?_⟩
  · rcases List.mem_cons.mp hT with rfl | hT
    · exact hpn
    · exact I.hok.fresh (Nat.le_of_lt (Nat.lt_of_le_of_lt hp (hgt T hT)))
  · obtain ⟨vs, hP, hH⟩ := qt T (List.mem_of_getElem? hj)
    obtain ⟨x, y, hx, hy, rfl⟩ := hP j hj
    exact ⟨x, y, hx, hy, hH⟩
section
variable {M : Mo} {S : Fix} {e e2 : Expr} {fs : Env → W (List D)} {p p2 q pos : Pos}
theorem v_listzip (ha : EvAV M S [e, e2] fs) (hf : decide (("list" : Str) ∈ M.free) = true := by kernel_rfl) (hf2 : decide (("zip" : Str) ∈ M.free) = true := by kernel_rfl) (hg : S.sc.names.lookup ("list" : Str) = some .globalImplicit := by kernel_rfl) (hg2 : S.sc.names.lookup ("zip" : Str) = some .globalImplicit := by kernel_rfl)
    (hs : ∀ env, starEach [e, e2] env = (false, eval e env) :: starEach [e2] env := by intro _; kernel_rfl) (hpl : ∀ env, (backTo q (starEach [e2] env)).any (·.1) = false := by intro _; kernel_rfl)
    (na : ∀ env, starEach [.Call (.Name "zip" p2) [e, e2] [] q] env = (false, eval (.Call (.Name "zip" p2) [e, e2] [] q) env) :: starEach [] env := by intro _; kernel_rfl) :
    EvV M S (.Call (.Name "list" p) [.Call (.Name "zip" p2) [e, e2] [] q] [] pos) fun ρ => (fs ρ).bind fun ds => (D.zip ds).bind fun r => W.pure (.lst r) := fun X G => by
  have core : PE X (.Call (.Name "list" p) [.Call (.Name "zip" p2) [e, e2] [] q] [] pos) (fun σ H Q => tAv X.K X.mg S.mt fs σ H fun vs H1 => rLz X.K vs H1 Q) := by
    refine ⟨fun pins s σ H Q I h => ?_⟩
    refine Call_ (ld_blt I (gl_of G hg) (G.free _ (of_decide_eq_true hf)) boot_list ?_)
    refine PyProof.Rows.callWith_type1 (PyProof.Rows.args_cons ?_ (na _)) (na _) rfl
    refine Call_ (ld_blt I (gl_of G hg2) (G.free _ (of_decide_eq_true hf2)) PyProof.Rows.boot_zip ?_)
    refine PyProof.Rows.callWith_type1 (thn ((ha X G).run q pins s σ H _ I h) fun us s1 ⟨vs, H1, I1, r1, q1⟩ => ?_) (hs _) (hpl _)
    obtain ⟨a, b, xs, ys, rfl, hq, q1⟩ := q1
    obtain ⟨u1, u2, rfl, r, r'⟩ := vals2 r1
    cases r
    cases r'
    have hh := I1.ok.hd G.calm
    rcases hq with ⟨hqx, hqy⟩ | ⟨hqx, hqy⟩
    · obtain ⟨its, rv, p1, hz1⟩ := I1.list hqx
      obtain ⟨its2, rv2, p2', _⟩ := I1.list hqy
      refine call_zip_2 p1.isList p2'.isList fun h' hz hTI hTO h1 h2 hsz hk => PyProof.Rows.args_nil ?_
      have la := p1.lt
      have lb := p2'.lt
      have Sp := zsep la lb
      have hsz' : h'.objs.size = s1.heap.objs.size + 5 := hsz
      have hh3 : X.A.in1.in1.in1.handled = none := hh
      have D1 := Draws.list (prog := X.prog) (w := X.w) hh3 s1.heap.objs.size a (Nat.ne_of_lt la) its.toArray
      have D2 := Draws.list (prog := X.prog) (w := X.w) hh3 (s1.heap.objs.size + 1) b (nea (.inl (Nat.lt_succ_of_lt lb))) its2.toArray
      have hmin : min its.toArray.size its2.toArray.size ≤ sizeLine := Nat.le_trans (Nat.min_le_left _ _) (by rw [List.size_toArray, ← rv.length]; exact hz1)
      refine PySem.W.pw_list_zip (s := { s1 with heap := h' }) hh Sp D1 D2 hmin
        ⟨hTI, ⟨h1, p1.isList.at fun o e => hk _ o e⟩, ⟨h2, p2'.isList.at fun o e => hk _ o e⟩, ⟨_, hTO⟩, .inl ⟨hz, _, _, hTO⟩⟩ hz s1.heap (fun b' o e => by have hb : @LT.lt Nat _ b' s1.heap.objs.size := Heap.lt_size e; exact ⟨nea (by omega), nea (by omega), nea (by omega), nea (by omega)⟩) (fun b' o e => hk b' o e) (fun b' hb => ?_) fun h'' tk acc c a1 a2 a3 a4 a5 a6 => ?_
      · show b' < h'.objs.size
        rw [hsz']
        rcases List.mem_append.mp hb with hb | hb
        · rcases List.mem_cons.mp hb with e | hb
          · rw [e]; exact Nat.lt_add_of_pos_right (by decide)
          · rw [List.mem_singleton.mp hb]; exact Nat.lt_of_lt_of_le la (Nat.le_add_right _ _)
        · rcases List.mem_cons.mp hb with e | hb
          · rw [e]; exact Nat.add_lt_add_left (by decide) _
          · rw [List.mem_singleton.mp hb]; exact Nat.lt_of_lt_of_le lb (Nat.le_add_right _ _)
      · exact lz_fin (a := a) (b := b) I1 rv rv2 hz1 q1 a1 (by show s1.heap.objs.size ≤ h'.objs.size; rw [hsz']; exact Nat.le_add_right _ _) a2 a3 a4 a5 a6
    · obtain ⟨its, rv, p1, hz1⟩ := I1.tuple hqx
      obtain ⟨its2, rv2, p2', _⟩ := I1.tuple hqy
      have p1 : s1.heap.IsTuple a its.toArray := p1
      have p2' : s1.heap.IsTuple b its2.toArray := p2'
      refine RZ.call_zipT p1 p2' fun h' hz hTI hTO h1 h2 hsz hk => PyProof.Rows.args_nil ?_
      have la : a < s1.heap.objs.size := by obtain ⟨_, e, _⟩ := p1; exact Heap.lt_size e
      have lb : b < s1.heap.objs.size := by obtain ⟨_, e, _⟩ := p2'; exact Heap.lt_size e
      have Sp := zsep la lb
      have hsz' : h'.objs.size = s1.heap.objs.size + 5 := hsz
      have hh3 : X.A.in1.in1.in1.handled = none := hh
      have D1 := Draws.tuple (prog := X.prog) (w := X.w) hh3 s1.heap.objs.size a (Nat.ne_of_lt la) its.toArray
      have D2 := Draws.tuple (prog := X.prog) (w := X.w) hh3 (s1.heap.objs.size + 1) b (nea (.inl (Nat.lt_succ_of_lt lb))) its2.toArray
      have hmin : min its.toArray.size its2.toArray.size ≤ sizeLine := Nat.le_trans (Nat.min_le_left _ _) (by rw [List.size_toArray, ← rv.length]; exact hz1)
      refine PySem.W.pw_list_zip (s := { s1 with heap := h' }) hh Sp D1 D2 hmin
        ⟨hTI, ⟨h1, p1.at fun o e => hk _ o e⟩, ⟨h2, p2'.at fun o e => hk _ o e⟩, ⟨_, hTO⟩, .inl ⟨hz, _, _, hTO⟩⟩ hz s1.heap (fun b' o e => by have hb : @LT.lt Nat _ b' s1.heap.objs.size := Heap.lt_size e; exact ⟨nea (by omega), nea (by omega), nea (by omega), nea (by omega)⟩) (fun b' o e => hk b' o e) (fun b' hb => ?_) fun h'' tk acc c a1 a2 a3 a4 a5 a6 => ?_
      · show b' < h'.objs.size
        rw [hsz']
        rcases List.mem_append.mp hb with hb | hb
        · rcases List.mem_cons.mp hb with e | hb
          · rw [e]; exact Nat.lt_add_of_pos_right (by decide)
          · rw [List.mem_singleton.mp hb]; exact Nat.lt_of_lt_of_le la (Nat.le_add_right _ _)
        · rcases List.mem_cons.mp hb with e | hb
          · rw [e]; exact Nat.add_lt_add_left (by decide) _
          · rw [List.mem_singleton.mp hb]; exact Nat.lt_of_lt_of_le lb (Nat.le_add_right _ _)
      · exact lz_fin (a := a) (b := b) I1 rv rv2 hz1 q1 a1 (by show s1.heap.objs.size ≤ h'.objs.size; rw [hsz']; exact Nat.le_add_right _ _) a2 a3 a4 a5 a6
  refine core.impW fun σ H Q fc ⟨z0, H0, z, ρ, E, h⟩ => ⟨z0, H0, z, ρ, E, (fs ρ).mono (fun ds k vs z1 H1 st1 fc1 r1 => ?_) h⟩
  have fin : ∀ {xs ys : List V} {ds es : List D}, RpL X.K X.mg z1 xs ds → RpL X.K X.mg z1 ys es → kV X.K X.mg z H Q (.lst (zipD ds es)) → ∀ (H2 : Hp) (p : Addr) (Ts : List Addr), (∀ b o, H1 b = some o → H2 b = some o) → (∀ T ∈ p :: Ts, H1 T = none) → H2 p = some (.lst (Ts.map V.ref)) → Ts.length = min xs.length ys.length →
      (∀ (j : Nat) (T : Addr), Ts[j]? = some T → ∃ x y, xs[j]? = some x ∧ ys[j]? = some y ∧ H2 T = some (.tup [x, y])) → Fct X.K H2 → Q (.ref p) H2 := fun {xs ys ds es} ra rb k H2 p Ts g hn hp hlen hat fc2 => by
    obtain ⟨z2, st2, f2⟩ := Step.grow st1.ok g (p :: Ts) hn
    refine k _ z2 H2 (st1.trans st2) fc2 (.lst (f2 p List.mem_cons_self _ hp) ?_)
    have hl : (zipD ds es).length = Ts.length := by rw [zipD_len, hlen, ra.length, rb.length]
    have hget : ∀ (j : Nat) (T : Addr), Ts[j]? = some T → ∃ d, (zipD ds es)[j]? = some d ∧ Rp X.K X.mg z2 (.ref T) d := fun j T hj => by
      obtain ⟨x, y, hx, hy, hT⟩ := hat j T hj
      obtain ⟨d, e1, r1⟩ := ra.getV hx
      obtain ⟨e, e2, r2⟩ := rb.getV hy
      exact ⟨_, zipD_get e1 e2, .tup (f2 T (List.mem_cons_of_mem _ (List.mem_of_getElem? hj)) _ hT) (.cons (r1.le st2.le) (.cons (r2.le st2.le) .nil))⟩
    generalize zipD ds es = l at hl hget
    exact rpL_of hl hget
  have k : ((D.zip ds).bind fun r => W.pure (D.lst r)).run (kV X.K X.mg z H Q) := k
  unfold D.zip at k
  split at k
  · obtain ⟨v, u, rfl, r, r'⟩ := r1.two
    cases r with
    | tup hf r =>
      cases r' with
      | tup hf' r' => exact ⟨_, _, _, _, rfl, .inr ⟨.of (st1.ok.sub _ _ hf), .of (st1.ok.sub _ _ hf')⟩, fin r r' k⟩
  · obtain ⟨v, u, rfl, r, r'⟩ := r1.two
    cases r with
    | lst hf r =>
      cases r' with
      | lst hf' r' => exact ⟨_, _, _, _, rfl, .inl ⟨.of (st1.ok.sub _ _ hf), .of (st1.ok.sub _ _ hf')⟩, fin r r' k⟩
  · exact (show False from k).elim
end
end PW

set_option Elab.async false
set_option linter.all false
set_option maxRecDepth 100000
set_option maxHeartbeats 1000000
namespace PW
open PySem PySem.Spec PyProof.Rows L2
/-! ### the bag of draws: its reads tell any numbers that keep its promise -/
def binv (k j : Int) : Prop := 0 ≤ j ∧ (k = 1 → j < 2147483648)
def D.bagI (k : Int) : D → W D
  | .bag => W.fa (fun j : Int => binv k j) D.int
  | _ => W.fail
def D.bagC : D → W D
  | .bag => W.fa (fun cs : List Int => (∀ x ∈ cs, (0 : Int) ≤ x) ∧ cs.length ≤ 63) fun cs => .lst (cs.map D.int)
  | _ => W.fail
def D.bagSet (k : Int) : D → D → W Unit
  | .bag, .int j => W.need (binv k j)
  | _, _ => W.fail
theorem rpl_ints {K : PySem.W.Frag} {mg : Str → Option Value} {z : Z} : ∀ cs : List Int, RpL K mg z (cs.map V.int) (cs.map D.int)
  | [] => .nil
  | c :: cs => .cons (.int c) (rpl_ints cs)
section
variable {K : PySem.W.Frag} {mg : Str → Option Value} {z : Z} {H : Hp} {a : Addr}
theorem RB.bag {v : V} (h : RB K mg z H v .bag) : ∃ a, v = .ref a ∧ z.β a := by
  rcases h with h | ⟨_, _, _, _, _, c⟩
  · cases h with
    | bag h => exact ⟨_, rfl, h⟩
  · cases c
theorem RB.scr {v : V} (ok : ZOk K z H) (h : RB K mg z H v .scr) : ∃ (a : Addr) (ns : List Int), v = .ref a ∧ ns.length ≤ 63 ∧ SqL K H a (ns.map V.int) := by
  rcases h with h | ⟨_, _, _, _, _, c⟩
  · cases h with
    | scr n h => exact ⟨_, _, rfl, n, ok.sub.seq h⟩
  · cases c
theorem Step.bagset (ok : ZOk K z H) (hb : z.β a) {b0 b1 b2 : Int} {c : Addr} {cs : List Int} (h2 : z.f c = some (.lst (cs.map V.int))) (h3 : 0 ≤ b0) (h4 : 0 ≤ b1 ∧ b1 < 2147483648) (h5 : 0 ≤ b2) (h6 : (∀ x ∈ cs, (0 : Int) ≤ x) ∧ cs.length ≤ 63) :
    Step K z H z (upd H a (.lst [.int b0, .int b1, .int b2, .ref c])) := by
  have hf := (ok.bag a hb).1
  refine ⟨Z.le.refl z, ⟨fun b o e => ?_, fun a' e => ?_⟩, fun b o h1 h2 => ?_, fun b o h1 _ _ => h1, fun b h => .inl h⟩
  · rw [upd_ne (ne_of_none e hf)]
    exact ok.sub b o e
  · by_cases q : a' = a
    · subst q
      exact ⟨hf, b0, b1, b2, c, cs, upd_same, h2, h3, h4, h5, h6⟩
    · obtain ⟨f0, x0, x1, x2, c', cs', e1, e2⟩ := ok.bag a' e
      exact ⟨f0, x0, x1, x2, c', cs', by rw [upd_ne q]; exact e1, e2⟩
  · rw [upd_ne (by intro q; exact h1 (by rw [q]; exact hb))]
    exact h2
end
section
variable {M : Mo} {S : Fix} {a b e : Expr} {es : List Expr} {f g : Env → W D} {fs : Env → W (List D)} {pos p p2 : Pos} {j : Nat}
theorem v_bagI {k : Int} (hk : k = 0 ∨ k = 1 ∨ k = 2) (ha : EvB M S a f) : EvV M S (.Subscript a (.Constant (.int k) j p) pos) fun ρ => (f ρ).bind (D.bagI k) := fun X G => by
  refine (pe_ix (ix_seq) (ha X G) (v_int (M := M) (S := S) (i := k) (j := j) X G) (by intro _ _; rfl)).impW fun σ H Q fc ⟨z0, H0, z, ρ, E, h⟩ => ?_
  refine ⟨z0, H0, z, ρ, E, (f ρ).mono (fun d k' x z1 H1 st1 fc1 r1 => ?_) h⟩
  refine ⟨z0, H0, z1, ρ, E.step st1, fun y z2 H2 st2 fc2 r2 => ?_⟩
  cases d <;> try exact (show False from k').elim
  obtain ⟨a, rfl, hb⟩ := (r1.step st2).bag
  obtain ⟨f0, b0, b1, b2, c, cs, h1, h2, h3, h4, h5, h6⟩ := st2.ok.bag a hb
  cases r2
  rcases hk with rfl | rfl | rfl
  · exact .inl ⟨a, _, 0, _, rfl, rfl, .inl (.inl h1), rfl, fun _ => k' b0 ⟨h3, fun e => by omega⟩ _ z2 H2 (st1.trans st2) fc2 (.int _)⟩
  · exact .inl ⟨a, _, 1, _, rfl, rfl, .inl (.inl h1), rfl, fun _ => k' b1 ⟨h4.1, fun e => h4.2⟩ _ z2 H2 (st1.trans st2) fc2 (.int _)⟩
  · exact .inl ⟨a, _, 2, _, rfl, rfl, .inl (.inl h1), rfl, fun _ => k' b2 ⟨h5, fun e => by omega⟩ _ z2 H2 (st1.trans st2) fc2 (.int _)⟩
theorem v_bagC (ha : EvB M S a f) : EvV M S (.Subscript a (.Constant (.int 3) j p) pos) fun ρ => (f ρ).bind D.bagC := fun X G => by
  refine (pe_ix (ix_seq) (ha X G) (v_int (M := M) (S := S) (i := 3) (j := j) X G) (by intro _ _; rfl)).impW fun σ H Q fc ⟨z0, H0, z, ρ, E, h⟩ => ?_
  refine ⟨z0, H0, z, ρ, E, (f ρ).mono (fun d k' x z1 H1 st1 fc1 r1 => ?_) h⟩
  refine ⟨z0, H0, z1, ρ, E.step st1, fun y z2 H2 st2 fc2 r2 => ?_⟩
  cases d <;> try exact (show False from k').elim
  obtain ⟨a, rfl, hb⟩ := (r1.step st2).bag
  obtain ⟨f0, b0, b1, b2, c, cs, h1, h2, h3, h4, h5, h6⟩ := st2.ok.bag a hb
  cases r2
  exact .inl ⟨a, _, 3, _, rfl, rfl, .inl (.inl h1), rfl, fun _ => k' cs h6 _ z2 H2 (st1.trans st2) fc2 (.lst h2 (rpl_ints cs))⟩
theorem v_pow {i k : Int} {j2 : Nat} (h : CPow i k) : EvV M S (.BinOp (.Constant (.int i) j p) .Pow (.Constant (.int k) j2 p2) pos) fun _ => W.pure (.int (i ^ k.toNat)) := fun X G => by
  refine (pe_op op_pow pe_int pe_int).impW fun σ H Q fc ⟨z0, H0, z, ρ, E, hh⟩ => ?_
  exact ⟨i, k, rfl, rfl, h, fun _ => hh _ z H (Step.refl E.ok) fc (.int _)⟩
/-- o[k] = e of the bag -/
theorem s_bagset {k : Int} {pt : Pos} (hk : k = 0 ∨ k = 1 ∨ k = 2) (ha : EvB M S a f) (he : EvV M S e g) (hsa : ∀ env v, assign (.Subscript a (.Constant (.int k) j p) pt) env v = (do
      let ov ← holding [v] (eval a env)
      let iv ← holding [v, ov] (eval (.Constant (.int k) j p) env)
      standAt pt
      holding [v, ov, iv] (setItem ov iv v)
      release [v, ov, iv] []) := by intro _ _; kernel_rfl) (hs : ∀ env : PySem.Env, env.scope = S.sc → swapsWithSole [.Subscript a (.Constant (.int k) j p) pt] e pos.line env = pure false := by intro env he; cases env; cases he; kernel_rfl) (hw : ∀ env : PySem.Env, env.scope = S.sc → swappedStores [.Subscript a (.Constant (.int k) j p) pt] e env = pure none := by intro env he; cases env; cases he; kernel_rfl)
    (h1 : ∀ env, (assignEach [.Subscript a (.Constant (.int k) j p) pt] env).map (·.2) = [assign (.Subscript a (.Constant (.int k) j p) pt) env] := by intro _; kernel_rfl) :
    EvS M S (.Assign [.Subscript a (.Constant (.int k) j p) pt] e pos) fun ρ => (g ρ).bind fun d => (f ρ).bind fun c => (D.bagSet k c d).bind fun _ => W.pure (.nx ρ) := fun X G => by
  refine (ps_asg (he X G) (pg_sub (ha X G) (v_int (M := M) (S := S) (i := k) (j := j) X G) set_list (hsa _)) (hs _ G.sc) (hw _ G.sc) (h1 _)).impW fun Dn σ H fc ⟨z0, H0, z, ρ, E, h⟩ => ?_
  refine ⟨z0, H0, z, ρ, E, (g ρ).mono (fun d kk v1 z1 H1 st1 fc1 r1 => ?_) h⟩
  refine ⟨z0, H0, z1, ρ, E.step st1, (f ρ).mono (fun c kk v2 z2 H2 st2 fc2 r2 => ?_) kk⟩
  refine ⟨z0, H0, z2, ρ, (E.step st1).step st2, fun y z3 H3 st3 fc3 r3 => ?_⟩
  cases c <;> try exact (show False from kk).elim
  obtain ⟨jv, rfl⟩ : ∃ jv, d = .int jv := by
    cases d <;> first
      | exact ⟨_, rfl⟩
      | exact (show False from kk).elim
  have kk : binv k jv ∧ kS X.K X.mg S.mt z0 H0 z Dn (.nx ρ) := kk
  have hz := kk.1
  have hgo : ∀ σ z' H, Z.le z z' → EnvR S.mt X.K X.mg z0 H0 z' H σ ρ → Dn.nx σ H := kk.2
  obtain ⟨ad, rfl, hb⟩ := (r2.step st3).bag
  obtain ⟨f0, b0, b1, b2, cc, cs, q1, q2, q3, q4, q5, q6⟩ := st3.ok.bag ad hb
  cases r3
  cases r1
  have le13 := (st1.le.trans st2.le).trans st3.le
  have E3 := ((E.step st1).step st2).step st3
  rcases hk with rfl | rfl | rfl
  · refine ⟨ad, _, 0, 0, rfl, rfl, q1, rfl, fun _ => ?_⟩
    have stp := Step.bagset st3.ok hb (b0 := jv) (b1 := b1) (b2 := b2) q2 hz.1 q4 q5 q6
    exact hgo _ z3 _ le13 (E3.step stp)
  · refine ⟨ad, _, 1, 1, rfl, rfl, q1, rfl, fun _ => ?_⟩
    have stp := Step.bagset st3.ok hb (b0 := b0) (b1 := jv) (b2 := b2) q2 q3 ⟨hz.1, hz.2 rfl⟩ q5 q6
    exact hgo _ z3 _ le13 (E3.step stp)
  · refine ⟨ad, _, 2, 2, rfl, rfl, q1, rfl, fun _ => ?_⟩
    have stp := Step.bagset st3.ok hb (b0 := b0) (b1 := b1) (b2 := jv) q2 q3 q4 hz.1 q6
    exact hgo _ z3 _ le13 (E3.step stp)
/-- o[k] of a list, 0 ≤ k -/
theorem get_list {X : Cx} : PGet X (fun x y H Q => ∃ p xs i v, x = .ref p ∧ y = .int i ∧ 0 ≤ i ∧ i < 2 ^ 63 ∧ SqL X.K H p xs ∧ xs[i.toNat]? = some v ∧ Q v H) := by
  intro pins s σ H x y v u Q I rx ry h
  obtain ⟨p, xs, i, z, rfl, rfl, h0, h1, hq, he, q⟩ := h
  cases rx
  obtain ⟨t, rfl⟩ := ry
  obtain ⟨its, r, pl, hz⟩ := I.list hq
  obtain ⟨w, ew, rw'⟩ := r.get he
  exact wpAny_getItem_list pl.isList h0 h1 (by simpa using ew) ⟨z, H, I, rw', q⟩
def D.isBag : D → W Unit
  | .bag => W.pure ()
  | _ => W.fail
def D.bagAdd : D → W Unit
  | .int j => W.need (0 ≤ j)
  | _ => W.fail
/-- bag[2] += e -/
theorem s_bagaug {pt : Pos} (ha : EvB M S a f) (he : EvV M S e g) :
    EvS M S (.AugAssign (.Subscript a (.Constant (.int 2) j p) pt) .Add e pos) fun ρ => (f ρ).bind fun c => c.isBag.bind fun _ => (g ρ).bind fun d => d.bagAdd.bind fun _ => W.pure (.nx ρ) := fun X G => by
  refine (ps_augS (ha X G) (v_int (M := M) (S := S) (i := 2) (j := j) X G) get_list (he X G) ip_add set_list).impW fun Dn σ H fc ⟨z0, H0, z, ρ, E, h⟩ => ?_
  refine ⟨z0, H0, z, ρ, E, (f ρ).mono (fun c kk v1 z1 H1 st1 fc1 r1 => ?_) h⟩
  refine ⟨z0, H0, z1, ρ, E.step st1, fun y z2 H2 st2 fc2 r2 => ?_⟩
  cases r2
  have E2 := (E.step st1).step st2
  cases c <;> try exact (show False from kk).elim
  obtain ⟨ad, rfl, hb⟩ := (r1.step st2).bag
  obtain ⟨f0, b0, b1, b2, cc, cs, q1, q2, q3, q4, q5, q6⟩ := st2.ok.bag ad hb
  refine ⟨ad, _, 2, _, rfl, rfl, by omega, by omega, .inl (.inl q1), rfl, ?_⟩
  refine ⟨z0, H0, z2, ρ, E2, (g ρ).mono (fun d kk v3 z3 H3 st3 fc3 r3 => ?_) kk⟩
  cases d <;> try exact (show False from kk).elim
  obtain ⟨hz, kk⟩ := kk
  cases r3
  have hb3 := st3.le.β _ hb
  obtain ⟨f0', b0', b1', b2', cc', cs', q1', q2', q3', q4', q5', q6'⟩ := st3.ok.bag ad hb3
  refine ⟨_, _, rfl, rfl, ad, _, 2, 2, rfl, rfl, q1', rfl, fun _ => ?_⟩
  have stp := Step.bagset st3.ok hb3 (b0 := b0') (b1 := b1') q2' q3' q4' (Int.add_nonneg q5 hz) q6'
  exact kk _ z3 _ ((st1.le.trans st2.le).trans st3.le) ((E2.step st3).step stp)
/-- the bag is made -/
def D.mkBag : List D → W D
  | [.int b0, .int b1, .int b2, .lst xs] => (W.some? (D.ints xs)).bind fun cs => (W.need (0 ≤ b0 ∧ (0 ≤ b1 ∧ b1 < 2147483648) ∧ 0 ≤ b2 ∧ (∀ x ∈ cs, (0 : Int) ≤ x) ∧ cs.length ≤ 63)).bind fun _ => W.pure .bag
  | _ => W.fail
theorem v_newbag (hs : EvAV M S es fs) : EvV M S (.List es pos) fun ρ => (fs ρ).bind D.mkBag := fun X G => by
  refine (pe_lst (hs X G)).impW fun σ H Q fc ⟨z0, H0, z, ρ, E, h⟩ => ?_
  refine ⟨z0, H0, z, ρ, E, (fs ρ).mono (fun ds k vs z1 H1 st1 fc1 r1 => ?_) h⟩
  have k : (D.mkBag ds).run (kV X.K X.mg z H Q) := k
  unfold D.mkBag at k
  split at k
  · rename_i b0 b1 b2 xs _
    obtain ⟨cs, e1, k⟩ := some_run k
    obtain ⟨⟨g0, g1, g2, g3, g4⟩, k⟩ := k
    cases r1 with
    | cons r0 r1 =>
    cases r0
    cases r1 with
    | cons r0 r1 =>
    cases r0
    cases r1 with
    | cons r0 r1 =>
    cases r0
    cases r1 with
    | cons r0 r1 =>
    cases r1
    cases r0 with
    | lst hf rl =>
    rename_i c vs
    have ev : vs = cs.map V.int := ints_eq rl e1
    subst ev
    refine ⟨by simp; unfold sizeLine; omega, fun p hp fc2 => ?_⟩
    refine k (.ref p) ⟨z1.f, fun b => z1.β b ∨ b = p⟩ _ (st1.trans ?_) fc2 (.bag (.inr rfl))
    have hfp : z1.f p = none := st1.ok.free hp
    refine ⟨⟨Same.refl _, fun _ h => .inl h⟩, ⟨st1.ok.sub.trans (Same.put hp), fun b hb => ?_⟩, fun b o _ e => Same.put hp b o e, fun b o h1 _ _ => h1, fun b hb => ?_⟩
    · by_cases q : b = p
      · subst q
        exact ⟨hfp, b0, b1, b2, c, cs, upd_same, hf, g0, g1, g2, g3, g4⟩
      · rcases hb with hb | hb
        · obtain ⟨f0, x0, x1, x2, c', cs', e1, e2⟩ := st1.ok.bag b hb
          exact ⟨f0, x0, x1, x2, c', cs', by rw [upd_ne q]; exact e1, e2⟩
        · exact absurd hb q
    · rcases hb with hb | hb
      · exact .inl hb
      · exact .inr (by rw [hb]; exact hp)
  · exact (show False from k).elim
def D.scr63 : D → W D
  | .scr => W.fa (fun ns : List Int => ns.length ≤ 63) fun ns => .lst (ns.map D.int)
  | _ => W.fail
theorem v_scr63 (ha : EvB M S a f) : EvV M S (.Subscript a (.Slice none (some (.Constant (.int 63) j p)) none p2) pos) fun ρ => (f ρ).bind D.scr63 := fun X G => by
  refine (pe_slice sl_list (ha X G) po_none (po_some (v_int (M := M) (S := S) (i := 63) (j := j) X G))).impW fun σ H Q fc ⟨z0, H0, z, ρ, E, h⟩ => ?_
  refine ⟨z0, H0, z, ρ, E, (f ρ).mono (fun d k x z1 H1 st1 fc1 r1 => ?_) h⟩
  refine ⟨z0, H0, z1, ρ, E.step st1, fun y z2 H2 st2 fc2 r2 => ?_⟩
  cases r2
  cases d <;> try exact (show False from k).elim
  obtain ⟨a, ns, rfl, hl, hq⟩ := (r1.step st2).scr st2.ok
  refine ⟨63, rfl, a, _, rfl, hq, fun p hp fc3 => ?_⟩
  have e : cutV (ns.map V.int) none (some 63) = (cutL ns none (some 63)).map V.int := by
    unfold cutV cutL
    rw [List.length_map, List.map_take, List.map_drop]
  rw [e] at fc3 ⊢
  exact kV_new (d := .lst ((cutL ns none (some 63)).map D.int)) (k _ (by show (cutL ns none (some 63)).length ≤ 63; unfold cutL; rw [List.length_take, List.length_drop]; omega)) (st1.trans st2) fc3 hp (.lst Z.put_at (rpl_ints _))
end
end PW

set_option Elab.async false
set_option linter.all false
set_option maxRecDepth 100000
set_option maxHeartbeats 1000000
namespace PW
open PySem PySem.Spec PyProof.Rows L2
/-! ### how the readings are computed -/
section
variable {α β γ : Type}
theorem W.ext_run {x y : W α} (h : ∀ Q, x.run Q ↔ y.run Q) : x = y := by
  obtain ⟨f, p⟩ := x
  obtain ⟨g, q⟩ := y
  have e : f = g := funext fun Q => propext (h Q)
  subst e
  rfl
theorem W.run_fa {ι : Type} (p : ι → Prop) (f : ι → α) (Q : α → Prop) : (W.fa p f).run Q = ∀ i, p i → Q (f i) := rfl
theorem W.run_ex {ι : Type} (f : ι → W α) (Q : α → Prop) : (W.ex f).run Q = ∃ i, (f i).run Q := rfl
theorem W.run_ite (c : Prop) [Decidable c] (x y : W α) (Q : α → Prop) : (if c then x else y).run Q = if c then x.run Q else y.run Q := by split <;> rfl
theorem W.pure_bind (a : α) (f : α → W β) : (W.pure a).bind f = f a := rfl
theorem W.fail_bind (f : α → W β) : (W.fail : W α).bind f = W.fail := rfl
theorem W.bind_assoc (x : W α) (f : α → W β) (g : β → W γ) : (x.bind f).bind g = x.bind fun a => (f a).bind g := rfl
theorem W.bind_pure (x : W α) : (x.bind fun a => W.pure a) = x := rfl
theorem W.some?_some (a : α) : W.some? (some a) = W.pure a := rfl
theorem W.ite_bind (c : Prop) [Decidable c] (x y : W α) (f : α → W β) : (if c then x else y).bind f = if c then x.bind f else y.bind f := by split <;> rfl
theorem W.ite_pure (c : Prop) [Decidable c] (x y : α) : (if c then W.pure x else W.pure y) = W.pure (if c then x else y) := by split <;> rfl
theorem W.need_bind {p : Prop} (h : p) (f : Unit → W α) : (W.need p).bind f = f () := W.ext_run fun Q => ⟨fun x => x.2, fun x => ⟨h, x⟩⟩
theorem W.need_true {p : Prop} (h : p) : W.need p = W.pure () := W.ext_run fun Q => ⟨fun x => x.2, fun x => ⟨h, x⟩⟩
/-- at least that -/
theorem W.ex_eq {ι : Type} {f : ι → W α} {a : α} (i : ι) (h : f i = W.pure a) {Q : α → Prop} (q : Q a) : (W.ex f).run Q := ⟨i, by rw [h]; exact q⟩
end
theorem getV_zero (d : D) (ρ : Env) : getV (some d :: ρ) 0 = W.pure d := rfl
theorem getV_succ (o : Option D) (ρ : Env) (i : Nat) : getV (o :: ρ) (i + 1) = getV ρ i := rfl
theorem D.eq_int (i j : Int) : D.eq (.int i) (.int j) = W.pure (.bl (decide (i = j))) := by
  have e : PyData.eqv (.int i) (.int j) = decide (i = j) := by
    simp only [PyData.eqv]
    by_cases h : i = j <;> simp [h]
  refine W.ext_run fun Q => ?_
  rw [← e]
  exact ⟨fun h => h.2.2, fun h => ⟨rfl, rfl, h⟩⟩
theorem D.ne_int (i j : Int) : D.ne (.int i) (.int j) = W.pure (.bl (!decide (i = j))) := by
  have e : PyData.eqv (.int i) (.int j) = decide (i = j) := by
    simp only [PyData.eqv]
    by_cases h : i = j <;> simp [h]
  refine W.ext_run fun Q => ?_
  rw [← e]
  exact ⟨fun h => h.2.2, fun h => ⟨rfl, rfl, h⟩⟩
theorem D.add_int (i j : Int) : D.add (.int i) (.int j) = W.pure (.int (i + j)) := rfl
theorem D.add_lst (x y : List D) : D.add (.lst x) (.lst y) = (W.need (x.length + y.length ≤ sizeLine)).bind fun _ => W.pure (.lst (x ++ y)) := rfl
theorem D.add_tup (x y : List D) : D.add (.tup x) (.tup y) = (W.need (x.length + y.length ≤ sizeLine)).bind fun _ => W.pure (.tup (x ++ y)) := rfl
theorem D.sub_int (i j : Int) : D.sub (.int i) (.int j) = W.pure (.int (i - j)) := rfl
theorem D.mul_int (i j : Int) : D.mul (.int i) (.int j) = (W.need (CMul i j)).bind fun _ => W.pure (.int (i * j)) := rfl
theorem D.mul_lst (x : List D) (k : Int) : D.mul (.lst x) (.int k) = (W.need (-(2 ^ 63) ≤ k ∧ k < 2 ^ 63 ∧ x.length * k.toNat ≤ sizeLine)).bind fun _ => W.pure (.lst (List.replicate k.toNat x).flatten) := rfl
theorem D.fdiv_int (i j : Int) : D.fdiv (.int i) (.int j) = (W.need (CDiv i j)).bind fun _ => W.pure (.int (i / j)) := rfl
theorem D.mod_int (i j : Int) : D.mod (.int i) (.int j) = (W.need (0 < j)).bind fun _ => W.pure (.int (i % j)) := rfl
theorem D.lt_int (i j : Int) : D.lt (.int i) (.int j) = W.pure (.bl (decide (i < j))) := rfl
theorem D.le_int (i j : Int) : D.le (.int i) (.int j) = W.pure (.bl (decide (i ≤ j))) := rfl
theorem D.gt_int (i j : Int) : D.gt (.int i) (.int j) = W.pure (.bl (decide (j < i))) := rfl
theorem D.ge_int (i j : Int) : D.ge (.int i) (.int j) = W.pure (.bl (decide (j ≤ i))) := rfl
theorem D.tr_bl (b : Bool) : D.tr (.bl b) = W.pure b := rfl
theorem D.truth_bl (b : Bool) : D.truth (.bl b) = W.pure b := rfl
theorem D.int1_int (i : Int) : D.int1 [.int i] = W.pure (.int i) := rfl
theorem D.int1_bl (b : Bool) : D.int1 [.bl b] = W.pure (.int (if b then 1 else 0)) := rfl
theorem D.asInt_int (i : Int) : D.asInt (.int i) = W.pure i := rfl
theorem D.slice_lst (x : List D) (lo hi : Option Int) : D.slice (.lst x) lo hi = W.pure (.lst (cutL x lo hi)) := rfl
theorem D.slice_tup (x : List D) (lo hi : Option Int) : D.slice (.tup x) lo hi = W.pure (.tup (cutL x lo hi)) := rfl
theorem D.ix_lst (x : List D) (i : Int) : D.ix (.lst x) (.int i) = W.some? (atI x i) := rfl
theorem D.ix_tup (x : List D) (i : Int) : D.ix (.tup x) (.int i) = W.some? (atI x i) := rfl
theorem D.bagI_bag (k : Int) : D.bagI k .bag = W.fa (fun j : Int => binv k j) D.int := rfl
theorem D.bagC_bag : D.bagC .bag = W.fa (fun cs : List Int => (∀ x ∈ cs, (0 : Int) ≤ x) ∧ cs.length ≤ 63) fun cs => .lst (cs.map D.int) := rfl
theorem D.bagSet_bag (k j : Int) : D.bagSet k .bag (.int j) = W.need (binv k j) := rfl
theorem D.bagAdd_int (j : Int) : D.bagAdd (.int j) = W.need (0 ≤ j) := rfl
theorem D.isBag_bag : D.isBag .bag = W.pure () := rfl
theorem D.len_lst (x : List D) : D.len [.lst x] = W.pure (.int x.length) := rfl
theorem D.len_tup (x : List D) : D.len [.tup x] = W.pure (.int x.length) := rfl
theorem D.min_int (i j : Int) : D.min [.int i, .int j] = W.pure (.int (if j < i then j else i)) := rfl
theorem D.max_int (i j : Int) : D.max [.int i, .int j] = W.pure (.int (if j > i then j else i)) := rfl
theorem D.abs_int (i : Int) : D.abs [.int i] = W.pure (.int (if i < 0 then -i else i)) := rfl
theorem D.neg_int (i : Int) : D.neg (.int i) = W.pure (.int (-i)) := rfl
theorem D.tuple_lst (x : List D) : D.tuple [.lst x] = W.pure (.tup x) := rfl
theorem D.tuple_tup (x : List D) : D.tuple [.tup x] = W.pure (.tup x) := rfl
theorem D.iter_lst (x : List D) : D.iter (.lst x) = W.pure x := rfl
theorem D.iter_tup (x : List D) : D.iter (.tup x) = W.pure x := rfl
theorem D.items_lst (x : List D) : D.items (.lst x) = W.pure x := rfl
theorem D.items_tup (x : List D) : D.items (.tup x) = W.pure x := rfl
theorem D.rev_lst (x : List D) : D.rev (.lst x) = W.pure (.lst x.reverse) := rfl
theorem atI_nn {α : Type} (xs : List α) {i : Int} (h : 0 ≤ i) : atI xs i = xs[i.toNat]? := by
  unfold atI ixN
  rw [if_pos h]
  by_cases h1 : i < (xs.length : Int)
  · rw [if_pos h1]
    rfl
  · rw [if_neg h1]
    rw [List.getElem?_eq_none (by omega)]
    rfl
theorem atI_nat {α : Type} (xs : List α) (i : Nat) : atI xs (i : Int) = xs[i]? := by
  rw [atI_nn xs (by omega)]
  rfl
theorem atI_zero {α : Type} (a : α) (as : List α) : atI (a :: as) 0 = some a := atI_nn _ (by decide)
theorem atI_one {α : Type} (a b : α) (as : List α) : atI (a :: b :: as) 1 = some b := atI_nn _ (by decide)
theorem atI_two {α : Type} (a b c : α) (as : List α) : atI (a :: b :: c :: as) 2 = some c := atI_nn _ (by decide)
theorem atI_three {α : Type} (a b c d : α) (as : List α) : atI (a :: b :: c :: d :: as) 3 = some d := atI_nn _ (by decide)
theorem atI_four {α : Type} (a b c d e : α) (as : List α) : atI (a :: b :: c :: d :: e :: as) 4 = some e := atI_nn _ (by decide)
theorem atI_neg1 {α : Type} (xs : List α) : atI xs (-1) = xs.getLast? := by
  unfold atI ixN
  rw [if_neg (by decide)]
  cases xs with
  | nil => rfl
  | cons a as =>
    rw [if_pos (by simp; omega), List.getLast?_eq_getElem?]
    show (a :: as)[_]? = _
    congr 1
    simp
    omega
theorem D.asLst_lst (x : List D) : D.asLst (.lst x) = W.pure x := rfl
theorem setAll_nil (ρ : Env) : setAll [] [] ρ = W.pure ρ := rfl
theorem setAll_cons (i : Nat) (is : List Nat) (d : D) (ds : List D) (ρ : Env) : setAll (i :: is) (d :: ds) ρ = setAll is ds (ρ.set i (some d)) := rfl
theorem Tgt.set_nm (i : Nat) (d : D) (ρ : Env) : Tgt.set (.nm i) d ρ = W.pure (ρ.set i (some d)) := rfl
theorem Tgt.set_tp (is : List Nat) (ds : List D) (ρ : Env) : Tgt.set (.tp is) (.tup ds) ρ = setAll is ds ρ := rfl
theorem fin_rt (d : D) : Out.fin (.rt d) = W.pure d := rfl
theorem fin_nx (ρ : Env) : Out.fin (.nx ρ) = W.pure .non := rfl
end PW

set_option Elab.async false
set_option linter.all false
set_option maxRecDepth 100000
set_option maxHeartbeats 1000000
namespace PW
open PySem PySem.Spec PyProof.Rows L2
/-! ### comprehensions over typed lists -/
section
variable {α β : Type} {p p1 : Env → W Bool} {f : Env → W D} {fi fi1 : Env → W (List D)} {ρ ρ' : Env} {i j : Nat} {vs vs1 : List Nat}
theorem comp_all {t : Tgt} (xs : List α) (e : α → D) (st : α → Env) (pb : α → Bool) (g : α → D) (ht : ∀ x ∈ xs, t.set (e x) ρ = W.pure (st x)) (hp : ∀ x ∈ xs, p (st x) = W.pure (pb x)) (hf : ∀ x ∈ xs, pb x = true → f (st x) = W.pure (g x)) (acc : List D) :
    compW t p f (xs.map e) ρ acc = W.pure (acc ++ (xs.filter pb).map g) := by
  induction xs generalizing acc with
  | nil => simp [compW]
  | cons x xs ih =>
    have ih := ih (fun y hy => ht y (List.mem_cons_of_mem _ hy)) (fun y hy => hp y (List.mem_cons_of_mem _ hy)) (fun y hy => hf y (List.mem_cons_of_mem _ hy))
    rw [List.map_cons, compW, ht x List.mem_cons_self, W.pure_bind, hp x List.mem_cons_self, W.pure_bind]
    cases q : pb x with
    | true =>
      rw [if_pos rfl, hf x List.mem_cons_self q, W.pure_bind, ih, List.filter_cons_of_pos q, List.map_cons, List.append_assoc]
      rfl
    | false =>
      rw [if_neg (by simp), ih, List.filter_cons_of_neg (by simp [q])]
theorem comp_nm (xs : List α) (e : α → D) (pb : α → Bool) (g : α → D) (hp : ∀ x ∈ xs, p (ρ.set i (some (e x))) = W.pure (pb x)) (hf : ∀ x ∈ xs, pb x = true → f (ρ.set i (some (e x))) = W.pure (g x)) (acc : List D) :
    compW (.nm i) p f (xs.map e) ρ acc = W.pure (acc ++ (xs.filter pb).map g) := comp_all xs e (fun x => ρ.set i (some (e x))) pb g (fun _ _ => rfl) hp hf acc
theorem comp_tp (xs : List α) (e1 e2 : α → D) (pb : α → Bool) (g : α → D) (hp : ∀ x ∈ xs, p ((ρ.set i (some (e1 x))).set j (some (e2 x))) = W.pure (pb x)) (hf : ∀ x ∈ xs, pb x = true → f ((ρ.set i (some (e1 x))).set j (some (e2 x))) = W.pure (g x)) (acc : List D) :
    compW (.tp [i, j]) p f (xs.map fun x => .tup [e1 x, e2 x]) ρ acc = W.pure (acc ++ (xs.filter pb).map g) := comp_all xs (fun x => .tup [e1 x, e2 x]) (fun x => (ρ.set i (some (e1 x))).set j (some (e2 x))) pb g (fun _ _ => rfl) hp hf acc
theorem lc_nm (xs : List α) (e : α → D) (pb : α → Bool) (g : α → D) (hi : fi ρ = W.pure (xs.map e)) (hw : wipeE ρ vs = ρ') (hp : ∀ x ∈ xs, p (ρ'.set i (some (e x))) = W.pure (pb x)) (hf : ∀ x ∈ xs, pb x = true → f (ρ'.set i (some (e x))) = W.pure (g x)) :
    lcW fi (.nm i) p f vs ρ = W.pure (.lst ((xs.filter pb).map g)) := by
  unfold lcW
  rw [hi, W.pure_bind, hw, comp_nm xs e pb g hp hf]
  rfl
theorem lc_map (xs : List α) (e : α → D) (g : α → D) (hi : fi ρ = W.pure (xs.map e)) (hw : wipeE ρ vs = ρ') (hf : ∀ x ∈ xs, f (ρ'.set i (some (e x))) = W.pure (g x)) :
    lcW fi (.nm i) (fun _ => W.pure true) f vs ρ = W.pure (.lst (xs.map g)) := by
  rw [lc_nm xs e (fun _ => true) g hi hw (fun _ _ => rfl) (fun x hx _ => hf x hx), List.filter_eq_self.mpr fun _ _ => rfl]
theorem lc_tp (xs : List α) (e1 e2 : α → D) (pb : α → Bool) (g : α → D) (hi : fi ρ = W.pure (xs.map fun x => .tup [e1 x, e2 x])) (hw : wipeE ρ vs = ρ') (hp : ∀ x ∈ xs, p ((ρ'.set i (some (e1 x))).set j (some (e2 x))) = W.pure (pb x)) (hf : ∀ x ∈ xs, pb x = true → f ((ρ'.set i (some (e1 x))).set j (some (e2 x))) = W.pure (g x)) :
    lcW fi (.tp [i, j]) p f vs ρ = W.pure (.lst ((xs.filter pb).map g)) := by
  unfold lcW
  rw [hi, W.pure_bind, hw, comp_tp xs e1 e2 pb g hp hf]
  rfl
theorem lc_tpmap (xs : List α) (e1 e2 : α → D) (g : α → D) (hi : fi ρ = W.pure (xs.map fun x => .tup [e1 x, e2 x])) (hw : wipeE ρ vs = ρ') (hf : ∀ x ∈ xs, f ((ρ'.set i (some (e1 x))).set j (some (e2 x))) = W.pure (g x)) :
    lcW fi (.tp [i, j]) (fun _ => W.pure true) f vs ρ = W.pure (.lst (xs.map g)) := by
  rw [lc_tp xs e1 e2 (fun _ => true) g hi hw (fun _ _ => rfl) (fun x hx _ => hf x hx), List.filter_eq_self.mpr fun _ _ => rfl]
/-- the inner of two -/
theorem compI_all {t : Tgt} (ys : List β) (e : β → D) (st : β → Env) (pb : β → Bool) (g : β → D) (ht : ∀ x ∈ ys, t.set (e x) ρ = W.pure (st x)) (hp : ∀ x ∈ ys, p (st x) = W.pure (pb x)) (hf : ∀ x ∈ ys, pb x = true → f (st x) = W.pure (g x)) (acc : List D) (hz : acc.length + ys.length ≤ sizeLine) :
    compI t p f (ys.map e) ρ acc = W.pure (acc ++ (ys.filter pb).map g) := by
  induction ys generalizing acc with
  | nil => simp [compI]
  | cons x xs ih =>
    have ih := ih (fun y hy => ht y (List.mem_cons_of_mem _ hy)) (fun y hy => hp y (List.mem_cons_of_mem _ hy)) (fun y hy => hf y (List.mem_cons_of_mem _ hy))
    rw [List.length_cons] at hz
    rw [List.map_cons, compI, ht x List.mem_cons_self, W.pure_bind, hp x List.mem_cons_self, W.pure_bind]
    cases q : pb x with
    | true =>
      rw [if_pos rfl, hf x List.mem_cons_self q, W.pure_bind, W.need_bind (by omega), ih _ (by rw [List.length_append, List.length_cons, List.length_nil]; omega), List.filter_cons_of_pos q, List.map_cons, List.append_assoc]
      rfl
    | false =>
      rw [if_neg (by simp), ih _ (by omega), List.filter_cons_of_neg (by simp [q])]
/-- [g(x, y) for x in xs for y in ys(x) if ..] with plain names -/
theorem lc2_nm (xs : List α) (e : α → D) (ys : α → List β) (e1 : β → D) (pb : α → β → Bool) (g : α → β → D) (hi : fi ρ = W.pure (xs.map e)) (hw : wipeE ρ vs = ρ') (hi1 : ∀ x ∈ xs, fi1 (ρ'.set i (some (e x))) = W.pure ((ys x).map e1))
    (st : α → Env) (hst : ∀ x ∈ xs, wipeE (ρ'.set i (some (e x))) vs1 = st x)
    (hp : ∀ x ∈ xs, ∀ y ∈ ys x, p1 ((st x).set j (some (e1 y))) = W.pure (pb x y)) (hf : ∀ x ∈ xs, ∀ y ∈ ys x, pb x y = true → f ((st x).set j (some (e1 y))) = W.pure (g x y))
    (hz : (xs.map fun x => (ys x).length).sum ≤ sizeLine) :
    lc2W fi (.nm i) (fun _ => W.pure true) fi1 vs1 (.nm j) p1 f vs ρ = W.pure (.lst (xs.flatMap fun x => ((ys x).filter (pb x)).map (g x))) := by
  unfold lc2W
  rw [hi, W.pure_bind, hw]
  have key : ∀ (xs' : List α) (acc : List D), (∀ x ∈ xs', x ∈ xs) → acc.length + (xs'.map fun x => (ys x).length).sum ≤ sizeLine → compO (.nm i) (fun _ => W.pure true) fi1 vs1 (.nm j) p1 f (xs'.map e) ρ' acc = W.pure (acc ++ xs'.flatMap fun x => ((ys x).filter (pb x)).map (g x)) := by
    intro xs'
    induction xs' with
    | nil => intro acc _ _; simp [compO]
    | cons x xs' ih =>
      intro acc hm hz
      have hx := hm x List.mem_cons_self
      rw [List.map_cons, List.sum_cons] at hz
      have hl : (acc ++ ((ys x).filter (pb x)).map (g x)).length ≤ acc.length + (ys x).length := by
        rw [List.length_append, List.length_map]
        have := List.length_filter_le (pb x) (ys x)
        omega
      rw [List.map_cons, compO, Tgt.set_nm, W.pure_bind, W.pure_bind, if_pos rfl, hi1 x hx, W.pure_bind, hst x hx, compI_all (ys x) e1 (fun y => (st x).set j (some (e1 y))) (pb x) (g x) (fun _ _ => rfl) (hp x hx) (hf x hx) acc (by omega), W.pure_bind,
        ih _ (fun y hy => hm y (List.mem_cons_of_mem _ hy)) (by omega), List.flatMap_cons, List.append_assoc]
  rw [key xs [] (fun _ h => h) (by rw [List.length_nil]; omega)]
  rfl
end
/-! ### loops -/
section
variable {α : Type} {b : Env → W Out} {t : Tgt}
/-- a for with an invariant -/
theorem for_inv {e : α → D} (I : List α → Env → Prop) (xs : List α) (ρ : Env) (h0 : I [] ρ)
    (hs : ∀ done x rest ρ, done ++ x :: rest = xs → I done ρ → ∃ ρ', ((t.set (e x) ρ).bind b = W.pure (.nx ρ') ∨ (t.set (e x) ρ).bind b = W.pure (.ct ρ')) ∧ I (done ++ [x]) ρ') :
    ∃ ρ', forW t b (xs.map e) ρ = W.pure (.nx ρ') ∧ I xs ρ' := by
  have key : ∀ (rest done : List α) (ρ : Env), done ++ rest = xs → I done ρ → ∃ ρ', forW t b (rest.map e) ρ = W.pure (.nx ρ') ∧ I xs ρ' := by
    intro rest
    induction rest with
    | nil => intro done ρ e1 h; rw [List.append_nil] at e1; subst e1; exact ⟨ρ, rfl, h⟩
    | cons x rest ih =>
      intro done ρ e1 h
      obtain ⟨ρ1, e2, h1⟩ := hs done x rest ρ e1 h
      obtain ⟨ρ2, e3, h2⟩ := ih (done ++ [x]) ρ1 (by rw [List.append_assoc]; exact e1) h1
      refine ⟨ρ2, ?_, h2⟩
      rw [List.map_cons, forW, ← e3]
      rw [← W.bind_assoc]
      rcases e2 with e2 | e2 <;> rw [e2] <;> rfl
  exact key xs [] ρ rfl h0
theorem for_bind {β : Type} {e : α → D} {k : Out → W β} {y : W β} (I : List α → Env → Prop) (xs : List α) (ρ : Env) (h0 : I [] ρ)
    (hs : ∀ done x rest ρ, done ++ x :: rest = xs → I done ρ → ∃ ρ', ((t.set (e x) ρ).bind b = W.pure (.nx ρ') ∨ (t.set (e x) ρ).bind b = W.pure (.ct ρ')) ∧ I (done ++ [x]) ρ') (hq : ∀ ρ', I xs ρ' → k (.nx ρ') = y) :
    (forW t b (xs.map e) ρ).bind k = y := by
  obtain ⟨ρ', h1, h2⟩ := for_inv I xs ρ h0 hs
  rw [h1, W.pure_bind]
  exact hq ρ' h2
theorem for_ex {P : Env → Prop} {e : α → D} {k : Out → W Out} (I : List α → Env → Prop) (xs : List α) (ρ : Env) (h0 : I [] ρ)
    (hs : ∀ done x rest ρ, done ++ x :: rest = xs → I done ρ → ∃ ρ', ((t.set (e x) ρ).bind b = W.pure (.nx ρ') ∨ (t.set (e x) ρ).bind b = W.pure (.ct ρ')) ∧ I (done ++ [x]) ρ')
    (hq : ∀ ρ', I xs ρ' → ∃ ρ2, (k (.nx ρ') = W.pure (.nx ρ2) ∨ k (.nx ρ') = W.pure (.ct ρ2)) ∧ P ρ2) :
    ∃ ρ2, ((forW t b (xs.map e) ρ).bind k = W.pure (.nx ρ2) ∨ (forW t b (xs.map e) ρ).bind k = W.pure (.ct ρ2)) ∧ P ρ2 := by
  obtain ⟨ρ', h1, h2⟩ := for_inv I xs ρ h0 hs
  rw [h1, W.pure_bind]
  exact hq ρ' h2
/-- a for in readings of what follows: each turn goes on, or gives its end -/
theorem for_run {e : α → D} (I : List α → Env → Prop) (xs : List α) (ρ : Env) (Q : Out → Prop) (h0 : I [] ρ)
    (hs : ∀ done x rest ρ, done ++ x :: rest = xs → I done ρ → ((t.set (e x) ρ).bind b).run fun o => match o with
      | .nx ρ' => I (done ++ [x]) ρ'
      | .ct ρ' => I (done ++ [x]) ρ'
      | .bk ρ' => Q (.nx ρ')
      | .rt d => Q (.rt d)) (hq : ∀ ρ, I xs ρ → Q (.nx ρ)) : (forW t b (xs.map e) ρ).run Q := by
  have key : ∀ (rest done : List α) (ρ : Env), done ++ rest = xs → I done ρ → (forW t b (rest.map e) ρ).run Q := by
    intro rest
    induction rest with
    | nil => intro done ρ e1 h; rw [List.append_nil] at e1; subst e1; exact hq ρ h
    | cons x rest ih =>
      intro done ρ e1 h
      rw [List.map_cons, forW, ← W.bind_assoc, W.run_bind]
      refine W.mono _ (fun o k => ?_) (hs done x rest ρ e1 h)
      cases o with
      | nx ρ' => exact ih (done ++ [x]) ρ' (by rw [List.append_assoc]; exact e1) k
      | ct ρ' => exact ih (done ++ [x]) ρ' (by rw [List.append_assoc]; exact e1) k
      | bk ρ' => exact k
      | rt d => exact k
  exact key xs [] ρ rfl h0
end
/-! ### the law's def -/
theorem fnok_def {M : Mo} {P : Program} {w : World} {K : PySem.W.Frag} {mg : Str → Option Value} {base : Heap} {x qual : Str} {params : Arguments} {body : List Stmt} {scope : Scope} {f : Addr} {fd : FuncData} {N ps : List Str} {mt : List Nat} {b : Env → W Out} (F : FunD K x qual params body scope [] [] f fd) (m : Mod0 M P w K mg base) (hb : EvSs M ⟨N, scope, fun _ => true, mt⟩ body b) (hS : C8.scC N ps scope = true)
    (hmt : (mt.all fun i => decide (ps.length ≤ i)) = true) (hN : ps.length ≤ N.length) :
    FnOk P w K mg base CX0 (M.lv + 1) f fd ps (spW K mg (defW ps.length N.length b)) := by
  have S := C8.fnScope_by hS
  exact F.ok (P := P) (w := w) (mg := mg) (base := base) (CX := CX0) (k := M.lv) (sp := spW K mg (defW ps.length N.length b)) S (fun vs H Q E ⟨z, ds, ok, r, h⟩ => by rw [r.length]; exact h.1) fun cdv A outer s H vs Q E hr ⟨z, ds, ok, r, h⟩ => by
    obtain ⟨hl, h⟩ := h
    obtain ⟨t, h1, h2⟩ := body_run (X := (cxOf CX0 P w K mg base N qual scope f cdv A outer s H E).nox) (good_of (mt := mt) m S.nd hr) hb ok r (by rw [hl]; exact hN) (fun i hi => by rw [hl]; exact of_decide_eq_true (List.all_eq_true.mp hmt i hi)) h
    exact ⟨t, h1.nox, h2⟩
theorem sp_law {K : PySem.W.Frag} {mg : Str → Option Value} {Φ : List D → W D} (h : (Φ [.scr]).run fun d => d = .bl true) {H : Hp} {a : Addr} {ns : List Int} (hl : ns.length ≤ 63) (hS : SqL K H a (ns.map V.int)) (E : XK) : spW K mg Φ [.ref a] H (fun v _ => v = .bl true) E :=
  ⟨⟨H, fun _ => False⟩, [.scr], ⟨Same.refl _, fun _ e => e.elim⟩, .cons (.scr hl hS) .nil, (Φ _).mono (fun d e v z' H' st fc r => by subst e; cases r; rfl) h⟩
end PW

set_option Elab.async false
set_option linter.all false
set_option maxRecDepth 100000
set_option maxHeartbeats 1000000
namespace PW
open PySem PySem.Spec PyProof.Rows L2
open PySem.W (keyToks keyToksAll alike alikeAll dataLe dataLt)
/-! ### typed data as Python's -/
class Cod (α : Type) [DecidableEq α] where
  enc : α → D
  py : α → PyData
  tupk : Bool
  dep : Nat
  hpy : ∀ x, (enc x).py = some (py x)
  lay : ∀ x, (py x).canLay0 = true
  hdep : ∀ x, (py x).depth ≤ dep
  eqv : ∀ x y, PyData.eqv (py x) (py y) = decide (x = y)
  toks : ∀ x y r r', keyToks (py x) ++ r = keyToks (py y) ++ r' → x = y ∧ r = r'
  alk : ∀ x y, alike (py x) (py y) = true
  nn : ∀ x, py x ≠ .none
  tk1 : tupk = true → ∀ x, ∃ xs, py x = .tuple xs
  tk2 : tupk = false → ∀ x xs, py x ≠ .tuple xs
section
variable {α β : Type} [DecidableEq α] [Cod α] [DecidableEq β] [Cod β]
open Cod
theorem Cod.pyD (x : α) : PW.pyD (enc x) = py x := by unfold PW.pyD; rw [hpy]; rfl
theorem pyL_enc : ∀ xs : List α, pyL (xs.map enc) = some (xs.map py)
  | [] => rfl
  | x :: xs => by rw [List.map_cons, pyL, hpy, pyL_enc xs]; rfl
theorem lay_all : ∀ xs : List α, PyData.canLayAll0 (xs.map py) = true
  | [] => by simp [PyData.canLayAll0]
  | x :: xs => by rw [List.map_cons, PyData.canLayAll0, lay, lay_all xs]; rfl
theorem dep_all : ∀ xs : List α, PyData.depthAll (xs.map py) ≤ dep α
  | [] => by simp [PyData.depthAll]
  | x :: xs => by rw [List.map_cons, PyData.depthAll]; exact Nat.max_le.mpr ⟨hdep x, dep_all xs⟩
theorem eqv_all : ∀ xs ys : List α, PyData.eqvAll (xs.map py) (ys.map py) = decide (xs = ys)
  | [], [] => by simp [PyData.eqvAll]
  | [], _ :: _ => by simp [PyData.eqvAll]
  | _ :: _, [] => by simp [PyData.eqvAll]
  | x :: xs, y :: ys => by
    rw [List.map_cons, List.map_cons, PyData.eqvAll, eqv, eqv_all xs ys]
    by_cases h : x = y <;> by_cases h2 : xs = ys <;> simp [h, h2]
theorem toks_all : ∀ (xs ys : List α) (r r' : List (Int ⊕ List Nat)), keyToksAll (xs.map py) ++ r = keyToksAll (ys.map py) ++ r' → xs = ys ∧ r = r'
  | [], [], r, r', h => by simpa [keyToksAll] using h
  | [], y :: ys, r, r', h => by simp [keyToksAll] at h
  | x :: xs, [], r, r', h => by simp [keyToksAll] at h
  | x :: xs, y :: ys, r, r', h => by
    simp only [List.map_cons, keyToksAll, List.cons_append, List.append_assoc, List.cons.injEq, true_and] at h
    obtain ⟨e, h⟩ := toks _ _ _ _ h
    obtain ⟨e2, h⟩ := toks_all xs ys r r' h
    exact ⟨by rw [e, e2], h⟩
theorem alk_all : ∀ xs ys : List α, alikeAll (xs.map py) (ys.map py) = true
  | [], [] => by simp [alikeAll]
  | [], _ :: _ => by simp [alikeAll]
  | _ :: _, [] => by simp [alikeAll]
  | x :: xs, y :: ys => by rw [List.map_cons, List.map_cons, alikeAll, alk, alk_all xs ys]; rfl
end
instance : Cod Int where
  enc := .int
  py := .int
  tupk := false
  dep := 0
  hpy _ := rfl
  lay _ := by simp [PyData.canLay0]
  hdep _ := by simp [PyData.depth]
  eqv x y := by
    simp only [PyData.eqv]
    by_cases h : x = y <;> simp [h]
  toks x y r r' h := by simpa [keyToks] using h
  alk x y := by simp [alike]
  nn x := by simp
  tk1 h := by cases h
  tk2 _ x xs := by simp
section
variable {α β : Type} [DecidableEq α] [Cod α] [DecidableEq β] [Cod β]
open Cod
instance : Cod (List α) where
  enc xs := .tup (xs.map enc)
  py xs := .tuple (xs.map py)
  tupk := true
  dep := dep α + 1
  hpy xs := by rw [D.py, pyL_enc]; rfl
  lay xs := by rw [PyData.canLay0]; exact lay_all xs
  hdep xs := by rw [PyData.depth]; exact Nat.succ_le_succ (dep_all xs)
  eqv xs ys := by rw [PyData.eqv]; exact eqv_all xs ys
  toks xs ys r r' h := by rw [keyToks, keyToks] at h; exact toks_all xs ys r r' h
  alk xs ys := by rw [alike]; exact alk_all xs ys
  nn x := by simp
  tk1 _ x := ⟨_, rfl⟩
  tk2 h := by cases h
instance : Cod (α × β) where
  enc x := .tup [enc x.1, enc x.2]
  py x := .tuple [py x.1, py x.2]
  tupk := true
  dep := max (dep α) (dep β) + 1
  hpy x := by rw [D.py, pyL, hpy, pyL, hpy]; rfl
  lay x := by simp [PyData.canLay0, PyData.canLayAll0, lay]
  hdep x := by
    have h1 := hdep x.1
    have h2 := hdep x.2
    simp only [PyData.depth, PyData.depthAll]
    omega
  eqv x y := by
    obtain ⟨a, b⟩ := x
    obtain ⟨c, d⟩ := y
    rw [PyData.eqv, PyData.eqvAll, PyData.eqvAll, PyData.eqvAll, eqv, eqv]
    by_cases h : a = c <;> by_cases h2 : b = d <;> simp [h, h2]
  toks x y r r' h := by
    obtain ⟨a, b⟩ := x
    obtain ⟨c, d⟩ := y
    simp only [keyToks, keyToksAll, List.cons_append, List.append_assoc, List.nil_append, List.cons.injEq, true_and] at h
    obtain ⟨e, h⟩ := toks _ _ _ _ h
    simp only [List.cons.injEq, true_and] at h
    obtain ⟨e2, h⟩ := toks _ _ _ _ h
    simp only [List.cons.injEq, true_and] at h
    exact ⟨by rw [e, e2], h⟩
  alk x y := by simp [alike, alikeAll, alk]
  nn x := by simp
  tk1 _ x := ⟨_, rfl⟩
  tk2 h := by cases h
theorem enc_int (i : Int) : (enc i : D) = .int i := rfl
theorem enc_list (xs : List α) : (enc xs : D) = .tup (xs.map enc) := rfl
theorem enc_pair (x : α × β) : (enc x : D) = .tup [enc x.1, enc x.2] := rfl
theorem shp (x : α) (h : dep α ≤ 64 := by decide) : SeqAt.shaped (py x) = true := by
  unfold SeqAt.shaped
  rw [lay, Bool.true_and, decide_eq_true_eq]
  exact Nat.le_trans (hdep x) h
theorem py?_enc (x : α) (h : dep α ≤ 64 := by decide) : (enc x).py? = W.pure (py x) := by
  unfold D.py?
  rw [hpy]
  exact W.need_bind (shp x h) _
theorem py?_lst (xs : List α) (h : dep α + 1 ≤ 64 := by decide) : (D.lst (xs.map enc)).py? = W.pure (.list (xs.map py)) := by
  have e : (D.lst (xs.map enc)).py = some (.list (xs.map py)) := by rw [D.py, pyL_enc]; rfl
  unfold D.py?
  rw [e]
  refine W.need_bind ?_ _
  unfold SeqAt.shaped
  rw [PyData.canLay0, lay_all, PyData.depth, Bool.true_and, decide_eq_true_eq]
  exact Nat.le_trans (Nat.succ_le_succ (dep_all xs)) h
theorem dec_same {p : Prop} (i j : Decidable p) : @decide p i = @decide p j := by congr
theorem D.eq_enc (x y : α) [Decidable (x = y)] (h : dep α ≤ 64 := by decide) : D.eq (enc x) (enc y) = W.pure (.bl (decide (x = y))) := by
  unfold D.eq
  rw [py?_enc x h, W.pure_bind, py?_enc y h, W.pure_bind, eqv, dec_same _ _]
theorem D.ne_enc (x y : α) [Decidable (x = y)] (h : dep α ≤ 64 := by decide) : D.ne (enc x) (enc y) = W.pure (.bl (!decide (x = y))) := by
  unfold D.ne
  rw [py?_enc x h, W.pure_bind, py?_enc y h, W.pure_bind, eqv, dec_same _ _]
theorem D.eq_lst (xs ys : List α) [Decidable (xs = ys)] (h : dep α + 1 ≤ 64 := by decide) : D.eq (.lst (xs.map enc)) (.lst (ys.map enc)) = W.pure (.bl (decide (xs = ys))) := by
  unfold D.eq
  rw [py?_lst xs h, W.pure_bind, py?_lst ys h, W.pure_bind, PyData.eqv, eqv_all, dec_same _ _]
theorem D.ne_lst (xs ys : List α) [Decidable (xs = ys)] (h : dep α + 1 ≤ 64 := by decide) : D.ne (.lst (xs.map enc)) (.lst (ys.map enc)) = W.pure (.bl (!decide (xs = ys))) := by
  unfold D.ne
  rw [py?_lst xs h, W.pure_bind, py?_lst ys h, W.pure_bind, PyData.eqv, eqv_all, dec_same _ _]
theorem any_eqv (x : α) (xs : List α) : ((xs.map py).any fun q => PyData.eqv q (py x)) = decide (x ∈ xs) := by
  rw [List.any_map]
  induction xs with
  | nil => simp
  | cons y ys ih =>
    rw [List.any_cons, ih]
    show (PyData.eqv (py y) (py x) || _) = _
    rw [eqv]
    by_cases h : y = x
    · simp [h]
    · have h' : ¬ x = y := fun e => h e.symm
      simp [h, h']
theorem D.has_tup (x : α) (xs : List α) [Decidable (x ∈ xs)] (h : dep α + 1 ≤ 64 := by decide) : D.has (enc x) (.tup (xs.map enc)) = W.pure (decide (x ∈ xs)) := by
  have e : D.has (enc x) (.tup (xs.map enc)) = (enc x).py?.bind fun p => (D.tup (xs.map enc)).py?.bind fun _ => (W.some? (pyL (xs.map enc))).bind fun ps => W.pure (ps.any fun q => PyData.eqv q p) := by
    have := hpy x
    unfold D.has
    split <;> first
      | rfl
      | (rename_i e1 e2; cases e2; rfl)
      | (rename_i e1 e2; cases e2)
      | skip
    all_goals simp_all
  rw [e, py?_enc x (by omega), W.pure_bind, show D.tup (xs.map enc) = enc xs from rfl, py?_enc xs h, W.pure_bind, pyL_enc, W.some?_some, W.pure_bind, any_eqv, dec_same _ _]
theorem D.has_lst (x : α) (xs : List α) [Decidable (x ∈ xs)] (h : dep α + 1 ≤ 64 := by decide) : D.has (enc x) (.lst (xs.map enc)) = W.pure (decide (x ∈ xs)) := by
  have e : D.has (enc x) (.lst (xs.map enc)) = (enc x).py?.bind fun p => (D.lst (xs.map enc)).py?.bind fun _ => (W.some? (pyL (xs.map enc))).bind fun ps => W.pure (ps.any fun q => PyData.eqv q p) := by
    have := hpy x
    unfold D.has
    split <;> first
      | rfl
      | (rename_i e1 e2; cases e2; rfl)
      | (rename_i e1 e2; cases e2)
      | skip
    all_goals simp_all
  rw [e, py?_enc x (by omega), W.pure_bind, py?_lst xs h, W.pure_bind, pyL_enc, W.some?_some, W.pure_bind, any_eqv, dec_same _ _]
theorem D.in_tup (x : α) (xs : List α) [Decidable (x ∈ xs)] (h : dep α + 1 ≤ 64 := by decide) : D.in (enc x) (.tup (xs.map enc)) = W.pure (.bl (decide (x ∈ xs))) := by unfold D.in; rw [D.has_tup x xs h]; rfl
theorem D.notIn_tup (x : α) (xs : List α) [Decidable (x ∈ xs)] (h : dep α + 1 ≤ 64 := by decide) : D.notIn (enc x) (.tup (xs.map enc)) = W.pure (.bl (!decide (x ∈ xs))) := by unfold D.notIn; rw [D.has_tup x xs h]; rfl
theorem D.in_lst (x : α) (xs : List α) [Decidable (x ∈ xs)] (h : dep α + 1 ≤ 64 := by decide) : D.in (enc x) (.lst (xs.map enc)) = W.pure (.bl (decide (x ∈ xs))) := by unfold D.in; rw [D.has_lst x xs h]; rfl
theorem D.notIn_lst (x : α) (xs : List α) [Decidable (x ∈ xs)] (h : dep α + 1 ≤ 64 := by decide) : D.notIn (enc x) (.lst (xs.map enc)) = W.pure (.bl (!decide (x ∈ xs))) := by unfold D.notIn; rw [D.has_lst x xs h]; rfl

/-! ### sorted -/
def cle (x y : α) : Bool := dataLe false (fun x : α => py x) x y
theorem cle_enc (x y : α) : dataLe false PW.pyD (enc x) (enc y) = cle x y := by
  unfold cle dataLe PySem.W.sortLe
  simp only [Cod.pyD]
def csort (xs : List α) : List α := xs.mergeSort cle
theorem sortL_enc (xs : List α) : sortL (xs.map enc) = (csort xs).map enc := by
  unfold sortL csort
  rw [List.map_mergeSort (r := cle) (s := dataLe false PW.pyD) fun a _ b _ => (cle_enc a b).symm]
theorem sortOk_enc (xs : List α) (h : dep α ≤ 64 := by decide) : SortOk (xs.map enc) := by
  have hm : ∀ d ∈ xs.map enc, ∃ x : α, d = enc x := fun d hd => by
    obtain ⟨x, _, rfl⟩ := List.mem_map.mp hd
    exact ⟨x, rfl⟩
  have hm2 : ∀ d ∈ (xs.map enc).map PW.pyD, ∃ x : α, d = py x := fun d hd => by
    obtain ⟨e, he, rfl⟩ := List.mem_map.mp hd
    obtain ⟨x, rfl⟩ := hm e he
    exact ⟨x, Cod.pyD x⟩
  refine ⟨fun d hd => ?_, fun d hd e he => ?_, ?_, fun d hd => ?_⟩
  · obtain ⟨x, rfl⟩ := hm d hd
    rw [Cod.pyD, hpy]
  · obtain ⟨x, rfl⟩ := hm2 d hd
    obtain ⟨y, rfl⟩ := hm2 e he
    exact alk x y
  · cases q : tupk α with
    | true => exact .inl fun d hd => by obtain ⟨x, rfl⟩ := hm2 d hd; exact tk1 q x
    | false => exact .inr fun d hd => by obtain ⟨x, rfl⟩ := hm2 d hd; exact ⟨nn x, tk2 q x⟩
  · obtain ⟨x, rfl⟩ := hm d hd
    rw [Cod.pyD]
    have := hdep x
    omega
theorem csort_perm (xs : List α) : (csort xs).Perm xs := List.mergeSort_perm xs cle
theorem cle_total (x y : α) : (cle x y || cle y x) = true := Bool.or_eq_true_iff.mpr ((PySem.W.sortLe_total (listOrd itemOrd) false fun x : α => keyToks (py x)).total x y)
theorem cle_trans (x y z : α) : cle x y = true → cle y z = true → cle x z = true := (PySem.W.sortLe_total (listOrd itemOrd) false fun x : α => keyToks (py x)).trans x y z
theorem csort_pairwise (xs : List α) : (csort xs).Pairwise fun a b => cle a b = true := List.pairwise_mergeSort cle_trans cle_total xs
theorem cle_anti {x y : α} (h1 : cle x y = true) (h2 : cle y x = true) : x = y := by
  unfold cle dataLe PySem.W.sortLe at h1 h2
  simp only [cond_false, Bool.not_eq_true'] at h1 h2
  have e := (listOrd itemOrd).total _ _ h2 h1
  exact (toks x y [] [] (by rw [List.append_nil, List.append_nil]; exact e)).1
theorem csort_length (xs : List α) : (csort xs).length = xs.length := List.length_mergeSort xs
theorem mem_csort {x : α} {xs : List α} : x ∈ csort xs ↔ x ∈ xs := (csort_perm xs).mem_iff
theorem sorted_unique {xs ys : List α} (p : xs.Perm ys) (h1 : xs.Pairwise fun a b => cle a b = true) (h2 : ys.Pairwise fun a b => cle a b = true) : xs = ys :=
  List.Perm.eq_of_pairwise (fun a b _ _ => cle_anti) h1 h2 p
theorem csort_eq {xs ys : List α} (p : xs.Perm ys) (h : ys.Pairwise fun a b => cle a b = true) : csort xs = ys := sorted_unique ((csort_perm xs).trans p) (csort_pairwise xs) h
theorem D.sorted_lst (xs : List α) (hz : xs.length ≤ sizeLine) (h : dep α ≤ 64 := by decide) : D.sorted [.lst (xs.map enc)] = W.pure (.lst ((csort xs).map enc)) := by
  show (W.need (SortOk (xs.map enc) ∧ (xs.map enc).length ≤ sizeLine)).bind (fun _ => W.pure (D.lst (sortL (xs.map enc)))) = W.pure (D.lst ((csort xs).map enc))
  rw [W.need_bind ⟨sortOk_enc xs h, by rw [List.length_map]; exact hz⟩, sortL_enc]
theorem D.sorted_tup (xs : List α) (hz : xs.length ≤ sizeLine) (h : dep α ≤ 64 := by decide) : D.sorted [.tup (xs.map enc)] = W.pure (.lst ((csort xs).map enc)) := by
  show (W.need (SortOk (xs.map enc) ∧ (xs.map enc).length ≤ sizeLine)).bind (fun _ => W.pure (D.lst (sortL (xs.map enc)))) = W.pure (D.lst ((csort xs).map enc))
  rw [W.need_bind ⟨sortOk_enc xs h, by rw [List.length_map]; exact hz⟩, sortL_enc]
end
theorem cle_int (x y : Int) : cle x y = decide (x ≤ y) := by
  show (!PyProof.Rows.lexLt itemOrd (keyToks (.int y)) (keyToks (.int x))) = _
  rw [keyToks, keyToks]
  by_cases h : y < x
  · have h2 : ¬ x ≤ y := by omega
    simp [PyProof.Rows.lexLt, itemOrd, itemLt, h, h2]
  · have h2 : x ≤ y := by omega
    simp [PyProof.Rows.lexLt, itemOrd, itemLt, h, h2]
end PW

set_option Elab.async false
set_option linter.all false
set_option maxRecDepth 100000
set_option maxHeartbeats 1000000
namespace PW
open PySem PySem.Spec PyProof.Rows L2 Cod
theorem size_le {n : Nat} (h : n ≤ 1000000) : n ≤ sizeLine := Nat.le_trans h (by unfold sizeLine; decide)
theorem W.need_size {α : Type} {n : Nat} (h : n ≤ 1000000) (f : Unit → W α) : (W.need (n ≤ sizeLine)).bind f = f () := W.need_bind (size_le h) f
theorem W.need_len {α : Type} (n : Nat) (f : Unit → W α) : (W.need (n = n)).bind f = f () := W.need_bind rfl f
theorem W.need_T {α : Type} (f : Unit → W α) : (W.need True).bind f = f () := W.need_bind trivial f
theorem W.need_len1 {α : Type} (f : Unit → W α) : (W.need (0 + 1 = 1)).bind f = f () := W.need_bind rfl f
theorem W.need_len2 {α : Type} (f : Unit → W α) : (W.need (0 + 1 + 1 = 2)).bind f = f () := W.need_bind rfl f
theorem W.need_len3 {α : Type} (f : Unit → W α) : (W.need (0 + 1 + 1 + 1 = 3)).bind f = f () := W.need_bind rfl f
theorem W.need_len4 {α : Type} (f : Unit → W α) : (W.need (0 + 1 + 1 + 1 + 1 = 4)).bind f = f () := W.need_bind rfl f
theorem W.need_sz0 {α : Type} (f : Unit → W α) : (W.need (0 ≤ sizeLine)).bind f = f () := W.need_bind (size_le (by decide)) f
theorem W.need_sz1 {α : Type} (f : Unit → W α) : (W.need (0 + 1 ≤ sizeLine)).bind f = f () := W.need_bind (size_le (by decide)) f
theorem W.need_sz2 {α : Type} (f : Unit → W α) : (W.need (0 + 1 + 1 ≤ sizeLine)).bind f = f () := W.need_bind (size_le (by decide)) f
theorem W.need_sz3 {α : Type} (f : Unit → W α) : (W.need (0 + 1 + 1 + 1 ≤ sizeLine)).bind f = f () := W.need_bind (size_le (by decide)) f
theorem W.need_sz4 {α : Type} (f : Unit → W α) : (W.need (0 + 1 + 1 + 1 + 1 ≤ sizeLine)).bind f = f () := W.need_bind (size_le (by decide)) f
theorem W.need_sz5 {α : Type} (f : Unit → W α) : (W.need (0 + 1 + 1 + 1 + 1 + 1 ≤ sizeLine)).bind f = f () := W.need_bind (size_le (by decide)) f
theorem W.if_bl {α : Type} (b : Bool) (x y : W α) : (if b = true then x else y) = (match b with
    | true => x
    | false => y) := by cases b <;> rfl

theorem W.ite_and (p q : Bool) : (if p = true then W.pure q else W.pure false) = W.pure (p && q) := by cases p <;> rfl
theorem W.ite_or (p q : Bool) : (if p = true then W.pure true else W.pure q) = W.pure (p || q) := by cases p <;> rfl
theorem W.ite_andD (p q : Bool) : (if p = true then W.pure (D.bl q) else W.pure (D.bl false)) = W.pure (D.bl (p && q)) := by cases p <;> rfl
theorem W.ite_orD (p q : Bool) : (if p = true then W.pure (D.bl true) else W.pure (D.bl q)) = W.pure (D.bl (p || q)) := by cases p <;> rfl

/-! ### ranges -/
def rngI (lo hi : Int) : List Int := (List.range (hi - lo).toNat).map fun i => lo + (i : Nat)
theorem rngD_I (lo hi : Int) : rngD lo hi = (rngI lo hi).map D.int := by
  unfold rngD rngI
  rw [List.map_map]
  rfl
theorem mem_rngI {lo hi x : Int} : x ∈ rngI lo hi ↔ lo ≤ x ∧ x < hi := by
  unfold rngI
  rw [List.mem_map]
  constructor
  · rintro ⟨i, hi, rfl⟩
    have := List.mem_range.mp hi
    omega
  · rintro ⟨h1, h2⟩
    exact ⟨(x - lo).toNat, List.mem_range.mpr (by omega), by omega⟩
theorem rngI_length (lo hi : Int) : (rngI lo hi).length = (hi - lo).toNat := by unfold rngI; rw [List.length_map, List.length_range]
theorem rngI_lt (lo hi : Int) : (rngI lo hi).Pairwise fun a b => a < b := by
  unfold rngI
  rw [List.pairwise_map]
  exact List.pairwise_lt_range.imp fun h => by omega
theorem rngI_nodup (lo hi : Int) : (rngI lo hi).Nodup := (rngI_lt lo hi).imp fun h => by omega
theorem D.rng1_int {j : Int} (h : -(2 ^ 62) ≤ j ∧ j < 1000000) : D.rng1 [.int j] = W.pure ((rngI 0 j).map enc) := by
  show (W.need (-(2 ^ 62) ≤ j ∧ j < 2 ^ 62 ∧ j.toNat ≤ sizeLine)).bind (fun _ => W.pure (rngD 0 j)) = _
  rw [W.need_bind ⟨h.1, by omega, size_le (by omega)⟩, rngD_I]
  rfl
theorem D.rng2_int {i j : Int} (h1 : -1000000 < i) (h2 : i < 1000000) (h3 : -1000000 < j) (h4 : j < 1000000) (h5 : j - i < 1000000) : D.rng2 [.int i, .int j] = W.pure ((rngI i j).map enc) := by
  show (W.need (-(2 ^ 62) ≤ i ∧ i < 2 ^ 62 ∧ -(2 ^ 62) ≤ j ∧ j < 2 ^ 62 ∧ (j - i).toNat ≤ sizeLine)).bind (fun _ => W.pure (rngD i j)) = _
  rw [W.need_bind ⟨by omega, by omega, by omega, by omega, size_le (by omega)⟩, rngD_I]
  rfl
theorem D.iter_rng {i j : Int} (h1 : -1000000 < i) (h2 : i < 1000000) (h3 : -1000000 < j) (h4 : j < 1000000) (h5 : j - i < 1000000) : D.iter (.rng i j) = W.pure ((rngI i j).map enc) := by
  show (W.need (-(2 ^ 62) ≤ i ∧ i < 2 ^ 62 ∧ -(2 ^ 62) ≤ j ∧ j < 2 ^ 62 ∧ (j - i).toNat ≤ sizeLine)).bind (fun _ => W.pure (rngD i j)) = _
  rw [W.need_bind ⟨by omega, by omega, by omega, by omega, size_le (by omega)⟩, rngD_I]
  rfl
theorem D.range2 (i j : Int) : D.range [.int i, .int j] = W.pure (.rng i j) := rfl
theorem D.range1 (j : Int) : D.range [.int j] = W.pure (.rng 0 j) := rfl
theorem D.ix_head {r : List Int} (h : r ≠ []) : D.ix (enc r) (.int 0) = W.pure (.int (r.headD 0)) := by
  cases r with
  | nil => exact absurd rfl h
  | cons x xs => rw [enc_list, D.ix_tup, List.map_cons, atI_zero]; rfl
theorem D.ix_last {r : List Int} (h : r ≠ []) : D.ix (enc r) (.int (-1)) = W.pure (.int (r.getLastD 0)) := by
  rw [enc_list, D.ix_tup, atI_neg1, List.getLast?_map]
  cases q : r.getLast? with
  | none => exact absurd (List.getLast?_eq_none_iff.mp q) h
  | some x => rw [List.getLastD_eq_getLast?, q]; rfl
theorem D.ix_at {r : List Int} {i : Nat} (h : i < r.length) : D.ix (enc r) (.int (i : Int)) = W.pure (.int ((r[i]?).getD 0)) := by
  rw [enc_list, D.ix_tup, atI_nat, List.getElem?_map, List.getElem?_eq_getElem h]
  rfl
theorem D.mul_0 (d : D) : D.mul (.lst [d]) (.int 0) = W.pure (.lst []) := by
  rw [D.mul_lst, W.need_bind ⟨by decide, by decide, size_le (show 1 * 0 ≤ 1000000 by decide)⟩]
  rfl
theorem D.mul_1 (d : D) : D.mul (.lst [d]) (.int 1) = W.pure (.lst [d]) := by
  rw [D.mul_lst, W.need_bind ⟨by decide, by decide, size_le (show 1 * 1 ≤ 1000000 by decide)⟩]
  rfl
theorem D.mul_one (d : D) (q : Bool) : D.mul (.lst [d]) (.int (if q = true then 1 else 0)) = W.pure (.lst (if q = true then [d] else [])) := by
  cases q with
  | true => exact D.mul_1 d
  | false => exact D.mul_0 d
theorem D.add_nil (xs : List D) (h : xs.length ≤ 1000000) : D.add (.lst xs) (.lst []) = W.pure (.lst xs) := by
  rw [D.add_lst, W.need_size (by rw [List.length_nil]; omega), List.append_nil]
theorem filter_snoc {α : Type} (p : α → Bool) (xs : List α) (x : α) : (xs ++ [x]).filter p = xs.filter p ++ if p x = true then [x] else [] := by
  rw [List.filter_append, List.filter_cons, List.filter_nil]
/-! ### couples -/
def cpl (n : Int) : List (Int × Int) := (rngI 0 n).flatMap fun a => (rngI (a + 1) n).map fun b => (a, b)
theorem mem_cpl {n : Int} {c : Int × Int} : c ∈ cpl n ↔ 0 ≤ c.1 ∧ c.1 < c.2 ∧ c.2 < n := by
  unfold cpl
  obtain ⟨a, b⟩ := c
  simp only [List.mem_flatMap, List.mem_map, mem_rngI, Prod.mk.injEq]
  constructor
  · rintro ⟨x, hx, y, hy, rfl, rfl⟩
    omega
  · rintro ⟨h1, h2, h3⟩
    exact ⟨a, by omega, b, by omega, rfl, rfl⟩
theorem cpl_nodup (n : Int) : (cpl n).Nodup := by
  unfold cpl
  refine List.pairwise_flatMap.mpr ⟨fun a _ => ?_, ?_⟩
  · exact List.pairwise_map.mpr ((rngI_lt _ _).imp fun {a b} h e => by cases e; omega)
  · refine (rngI_lt 0 n).imp fun {a b} h c h1 d h2 e => ?_
    obtain ⟨x, _, rfl⟩ := List.mem_map.mp h1
    obtain ⟨y, _, rfl⟩ := List.mem_map.mp h2
    cases e
    omega
/-! ### all, any, sum, enumerate, slices -/
theorem bls_map : ∀ bs : List Bool, D.bls (bs.map D.bl) = some bs
  | [] => rfl
  | b :: bs => by rw [List.map_cons, D.bls, bls_map bs]; rfl
theorem ints_map : ∀ bs : List Int, D.ints (bs.map D.int) = some bs
  | [] => rfl
  | b :: bs => by rw [List.map_cons, D.ints, ints_map bs]; rfl
theorem D.all_bl (bs : List Bool) : D.all [.lst (bs.map D.bl)] = W.pure (.bl (bs.all _root_.id)) := by
  show (W.some? (D.bls (bs.map D.bl))).bind _ = _
  rw [bls_map]
  rfl
theorem D.any_bl (bs : List Bool) : D.any [.lst (bs.map D.bl)] = W.pure (.bl (bs.any _root_.id)) := by
  show (W.some? (D.bls (bs.map D.bl))).bind _ = _
  rw [bls_map]
  rfl
theorem D.all_map {α : Type} (xs : List α) (f : α → Bool) : D.all [.lst (xs.map fun x => .bl (f x))] = W.pure (.bl (xs.all f)) := by
  have e : (xs.map fun x => D.bl (f x)) = (xs.map f).map D.bl := by rw [List.map_map]; rfl
  rw [e, D.all_bl, List.all_map]
  rfl
theorem D.sum_lst (bs : List Int) : D.sum [.lst (bs.map D.int)] = W.pure (.int bs.sum) := by
  show (W.some? (D.ints (bs.map D.int))).bind _ = _
  rw [ints_map]
  rfl
theorem D.sum_tup (bs : List Int) : D.sum [.tup (bs.map D.int)] = W.pure (.int bs.sum) := by
  show (W.some? (D.ints (bs.map D.int))).bind _ = _
  rw [ints_map]
  rfl
theorem cutL_drop {α : Type} (xs : List α) (k : Nat) : cutL xs (some (k : Int)) none = xs.drop k := by
  unfold cutL
  rw [HT.sIx_nat, HT.sIx_none]
  by_cases h : k ≤ xs.length
  · rw [Nat.min_eq_left h, List.take_of_length_le (by rw [List.length_drop]; omega)]
  · rw [Nat.min_eq_right (by omega), List.drop_of_length_le (Nat.le_refl _), List.drop_of_length_le (by omega), List.take_nil]
theorem cutL_take {α : Type} (xs : List α) (k : Nat) : cutL xs none (some (k : Int)) = xs.take k := by
  unfold cutL
  rw [HT.sIx_nat, HT.sIx_none, List.drop_zero, Nat.sub_zero]
  by_cases h : k ≤ xs.length
  · rw [Nat.min_eq_left h]
  · rw [Nat.min_eq_right (by omega), List.take_of_length_le (Nat.le_refl _), List.take_of_length_le (by omega)]
theorem sum_le_mul {α : Type} (xs : List α) (f : α → Nat) (k : Nat) (h : ∀ x ∈ xs, f x ≤ k) : (xs.map f).sum ≤ xs.length * k := by
  induction xs with
  | nil => simp
  | cons x xs ih =>
    have h1 := h x List.mem_cons_self
    have h2 := ih fun y hy => h y (List.mem_cons_of_mem _ hy)
    rw [List.map_cons, List.sum_cons, List.length_cons, Nat.add_mul]
    omega
theorem D.eq_nil_map {α β : Type} [DecidableEq β] [Cod β] (xs : List α) (g : α → β) [Decidable (xs = [])] (h : dep β + 1 ≤ 64 := by decide) : D.eq (.lst (xs.map fun x => enc (g x))) (.lst []) = W.pure (.bl (decide (xs = []))) := by
  have e : (xs.map fun x => enc (g x)) = (xs.map g).map enc := by rw [List.map_map]; rfl
  rw [e, show (D.lst ([] : List D)) = D.lst (([] : List β).map enc) from rfl, D.eq_lst _ _ h]
  congr 2
  rw [decide_eq_decide, List.map_eq_nil_iff]
theorem D.sorted_map {α β : Type} [DecidableEq β] [Cod β] (xs : List α) (g : α → β) (hz : xs.length ≤ 1000000) (h : dep β ≤ 64 := by decide) : D.sorted [.lst (xs.map fun x => enc (g x))] = W.pure (.lst ((csort (xs.map g)).map enc)) := by
  have e : (xs.map fun x => enc (g x)) = (xs.map g).map enc := by rw [List.map_map]; rfl
  rw [e, D.sorted_lst _ (size_le (by rw [List.length_map]; exact hz)) h]
theorem forW_nil (t : Tgt) (b : Env → W Out) (ρ : Env) : forW t b [] ρ = W.pure (.nx ρ) := rfl
theorem forW_cons (t : Tgt) (b : Env → W Out) (d : D) (ds : List D) (ρ : Env) : forW t b (d :: ds) ρ = (t.set d ρ).bind fun ρ' => (b ρ').bind fun o => match o with
    | .nx ρ'' => forW t b ds ρ''
    | .ct ρ'' => forW t b ds ρ''
    | .bk ρ'' => W.pure (.nx ρ'')
    | .rt d => W.pure (.rt d) := rfl
theorem D.zip_tup {α β : Type} [DecidableEq α] [Cod α] [DecidableEq β] [Cod β] (xs : List α) (ys : List β) : D.zip [.tup (xs.map enc), .tup (ys.map enc)] = W.pure ((xs.zip ys).map enc) := by
  show W.pure (zipD _ _) = _
  unfold zipD
  rw [List.zipWith_map, List.zip, List.map_zipWith]
  rfl
theorem D.isi_tup {α : Type} [DecidableEq α] [Cod α] (xs : List α) : D.isi [enc xs, .ty "tuple"] = W.pure (.bl true) := rfl
theorem rise_iff (l : List Int) : ((l.zip (l.drop 1)).all fun p => decide (p.1 < p.2)) = decide (l.Pairwise fun a b => a < b) := by
  rw [Bool.eq_iff_iff, decide_eq_true_eq]
  induction l with
  | nil => simp
  | cons x xs ih =>
    cases xs with
    | nil => simp
    | cons y ys =>
      rw [List.drop_succ_cons, List.drop_zero] at ih ⊢
      rw [List.zip_cons_cons, List.all_cons, Bool.and_eq_true, decide_eq_true_eq, List.pairwise_cons]
      have ih' : (((y :: ys).zip ys).all fun p => decide (p.1 < p.2)) = true ↔ (y :: ys).Pairwise fun a b => a < b := by
        simpa using ih
      rw [ih']
      constructor
      · rintro ⟨h1, h2⟩
        refine ⟨fun z hz => ?_, h2⟩
        rcases List.mem_cons.mp hz with rfl | hz
        · exact h1
        · have := (List.pairwise_cons.mp h2).1 z hz
          omega
      · rintro ⟨h1, h2⟩
        exact ⟨h1 y List.mem_cons_self, h2⟩
def enumI {α : Type} (xs : List α) : List (Int × α) := (List.range xs.length).zipWith (fun (i : Nat) (x : α) => ((i : Int), x)) xs
theorem enumD_enc {α : Type} [DecidableEq α] [Cod α] (xs : List α) : enumD (xs.map enc) = (enumI xs).map enc := by
  unfold enumD enumI
  rw [List.length_map, List.map_zipWith, List.zipWith_map_right]
  rfl
theorem D.enum_tup {α : Type} [DecidableEq α] [Cod α] (xs : List α) : D.enum [.tup (xs.map enc)] = W.pure ((enumI xs).map enc) := by
  rw [← enumD_enc]
  rfl
theorem D.enum_lst {α : Type} [DecidableEq α] [Cod α] (xs : List α) : D.enum [.lst (xs.map enc)] = W.pure ((enumI xs).map enc) := by
  rw [← enumD_enc]
  rfl
theorem enumI_length {α : Type} (xs : List α) : (enumI xs).length = xs.length := by unfold enumI; rw [List.length_zipWith, List.length_range, Nat.min_self]
theorem enumI_snd {α : Type} (xs : List α) : (enumI xs).map (·.2) = xs := by
  unfold enumI
  rw [List.map_zipWith]
  apply List.ext_getElem
  · rw [List.length_zipWith, List.length_range, Nat.min_self]
  · intro i h1 h2
    rw [List.getElem_zipWith]
theorem enumI_get {α : Type} (xs : List α) (i : Nat) (h : i < xs.length) : (enumI xs)[i]? = some ((i : Int), xs[i]) := by
  unfold enumI
  rw [List.getElem?_zipWith, List.getElem?_range h, List.getElem?_eq_getElem h]
theorem map_int (xs : List Int) : xs.map (enc (α := Int)) = xs.map D.int := rfl
end PW

set_option Elab.async false
set_option linter.all false
set_option maxRecDepth 100000
set_option maxHeartbeats 1000000
namespace PW
open PySem PySem.Spec PyProof.Rows L2 Cod
open PySem.W (keyToks keyToksAll dataLe dataLt)
/-! ### min of a list -/
section
variable {α : Type} [DecidableEq α] [Cod α]
def minC (x : α) (xs : List α) : α := xs.foldl (fun a y => if cle a y = true then a else y) x
theorem minL_enc (x : α) (xs : List α) : D.minL (enc x) (xs.map enc) = enc (minC x xs) := by
  unfold D.minL minC
  induction xs generalizing x with
  | nil => rfl
  | cons y ys ih =>
    rw [List.map_cons, List.foldl_cons, List.foldl_cons, ← ih]
    congr 1
    have e : dataLt (pyD (enc y)) (pyD (enc x)) = !cle x y := by
      rw [Cod.pyD, Cod.pyD]
      unfold cle dataLe PySem.W.sortLe dataLt
      simp
    rw [e]
    cases cle x y <;> rfl
theorem minOk_enc (xs : List α) (h : dep α ≤ 64 := by decide) : MinOk (xs.map enc) := by
  have so := sortOk_enc xs h
  refine ⟨so.py, ⟨so.alike, fun d hd => ?_⟩, so.depth⟩
  obtain ⟨e, he, rfl⟩ := List.mem_map.mp hd
  obtain ⟨x, _, rfl⟩ := List.mem_map.mp he
  rw [Cod.pyD]
  exact nn x
theorem D.min_lst (x : α) (xs : List α) (h : dep α ≤ 64 := by decide) : D.min [.lst ((x :: xs).map enc)] = W.pure (enc (minC x xs)) := by
  show (W.need (MinOk ((x :: xs).map enc))).bind (fun _ => W.pure (D.minL (enc x) (xs.map enc))) = _
  rw [W.need_bind (minOk_enc _ h), minL_enc]
theorem D.min_tup (x : α) (xs : List α) (h : dep α ≤ 64 := by decide) : D.min [.tup ((x :: xs).map enc)] = W.pure (enc (minC x xs)) := by
  show (W.need (MinOk ((x :: xs).map enc))).bind (fun _ => W.pure (D.minL (enc x) (xs.map enc))) = _
  rw [W.need_bind (minOk_enc _ h), minL_enc]
theorem cle_refl (x : α) : cle x x = true := by
  have := cle_total x x
  simpa using this
theorem minC_mem (x : α) (xs : List α) : minC x xs ∈ x :: xs := by
  unfold minC
  induction xs generalizing x with
  | nil => exact List.mem_cons_self
  | cons y ys ih =>
    rw [List.foldl_cons]
    split
    · rcases List.mem_cons.mp (ih x) with h | h
      · rw [h]; exact List.mem_cons_self
      · exact List.mem_cons_of_mem _ (List.mem_cons_of_mem _ h)
    · exact List.mem_cons_of_mem _ (ih y)
theorem minC_le (x : α) (xs : List α) : ∀ y ∈ x :: xs, cle (minC x xs) y = true := by
  unfold minC
  induction xs generalizing x with
  | nil =>
    intro y hy
    rw [List.mem_singleton] at hy
    subst hy
    exact cle_refl _
  | cons z zs ih =>
    intro y hy
    rw [List.foldl_cons]
    split
    · rename_i q
      have h1 := ih x
      rcases List.mem_cons.mp hy with rfl | hy
      · exact h1 _ List.mem_cons_self
      · rcases List.mem_cons.mp hy with rfl | hy
        · exact cle_trans _ _ _ (h1 x List.mem_cons_self) q
        · exact h1 _ (List.mem_cons_of_mem _ hy)
    · rename_i q
      have q2 : cle z x = true := by
        have := cle_total x z
        simp only [Bool.or_eq_true] at this
        rcases this with h | h
        · exact absurd h q
        · exact h
      have h1 := ih z
      rcases List.mem_cons.mp hy with rfl | hy
      · exact cle_trans _ _ _ (h1 z List.mem_cons_self) q2
      · exact h1 _ hy
end
theorem cle_head {a b : Int} {as bs : List Int} (h : cle (a :: as) (b :: bs) = true) : a ≤ b := by
  unfold cle dataLe PySem.W.sortLe at h
  simp only [cond_false, Bool.not_eq_true'] at h
  by_cases hlt : b < a
  · exfalso
    have e : PyProof.Rows.lexLt itemOrd (keyToks (py (b :: bs))) (keyToks (py (a :: as))) = true := by
      show PyProof.Rows.lexLt itemOrd (keyToks (.tuple (.int b :: bs.map py))) (keyToks (.tuple (.int a :: as.map py))) = true
      rw [keyToks, keyToks, keyToksAll, keyToksAll, keyToks, keyToks]
      simp only [List.cons_append, List.nil_append]
      rw [show ∀ l m, PyProof.Rows.lexLt itemOrd (Sum.inl (1 : Int) :: l) (Sum.inl (1 : Int) :: m) = PyProof.Rows.lexLt itemOrd l m from fun l m => PyProof.Rows.lex_self (O := itemOrd) _ l m]
      rw [PyProof.Rows.lex_diff (O := itemOrd) (by intro e; cases e; omega)]
      show decide (b < a) = true
      exact decide_eq_true hlt
    rw [show PyProof.Rows.lexLt itemOrd (keyToks (py (b :: bs))) (keyToks (py (a :: as))) = false from h] at e
    cases e
  · omega
end PW

set_option Elab.async false
set_option linter.all false
set_option maxRecDepth 100000
set_option maxHeartbeats 1000000
namespace PW
open PySem PySem.Spec PyProof.Rows L2 Cod
theorem for_exA {α ι β : Type} {b : Env → W Out} {t : Tgt} {Y : ι → W β} {P : ι → Prop} {e : α → D} {k : Out → W β} (I : List α → Env → Prop) (xs : List α) (ρ : Env) (h0 : I [] ρ)
    (hs : ∀ done x rest ρ, done ++ x :: rest = xs → I done ρ → ∃ ρ', ((t.set (e x) ρ).bind b = W.pure (.nx ρ') ∨ (t.set (e x) ρ).bind b = W.pure (.ct ρ')) ∧ I (done ++ [x]) ρ')
    (hq : ∀ ρ', I xs ρ' → ∃ l, k (.nx ρ') = Y l ∧ P l) : ∃ l, (forW t b (xs.map e) ρ).bind k = Y l ∧ P l := by
  obtain ⟨ρ', h1, h2⟩ := for_inv I xs ρ h0 hs
  rw [h1, W.pure_bind]
  exact hq ρ' h2
theorem for_last {α : Type} {b : Env → W Out} {t : Tgt} {P : Env → Prop} {e : α → D} (I : List α → Env → Prop) (xs : List α) (ρ : Env) (h0 : I [] ρ)
    (hs : ∀ done x rest ρ, done ++ x :: rest = xs → I done ρ → ∃ ρ', ((t.set (e x) ρ).bind b = W.pure (.nx ρ') ∨ (t.set (e x) ρ).bind b = W.pure (.ct ρ')) ∧ I (done ++ [x]) ρ')
    (hq : ∀ ρ', I xs ρ' → P ρ') : ∃ ρ', (forW t b (xs.map e) ρ = W.pure (.nx ρ') ∨ forW t b (xs.map e) ρ = W.pure (.ct ρ')) ∧ P ρ' := by
  obtain ⟨ρ', h1, h2⟩ := for_inv I xs ρ h0 hs
  exact ⟨ρ', .inl h1, hq ρ' h2⟩
/-! ### {x: True for x in xs} of ints -/
def trueK (xs : List Int) : List (Key × D) := xs.map fun x => (Sum.inl x, D.bl true)
def addNew (acc : List Int) (x : Int) : List Int := if x ∈ acc then acc else acc ++ [x]
theorem put_trueK (acc : List Int) (x : Int) : putD (trueK acc) (Sum.inl x) (D.bl true) = trueK (addNew acc x) := by
  unfold putD addNew
  have e : ((trueK acc).any fun kv => decide (kv.1 = (Sum.inl x : Key))) = decide (x ∈ acc) := by
    unfold trueK
    rw [List.any_map]
    induction acc with
    | nil => rfl
    | cons y ys ih =>
      rw [List.any_cons, ih]
      by_cases h : y = x
      · simp [h]
      · have h2 : ¬ x = y := fun e => h e.symm
        have h3 : ¬ ((Sum.inl y : Key) = Sum.inl x) := fun e => h (by cases e; rfl)
        simp [h, h2]
  rw [e]
  by_cases h : x ∈ acc
  · rw [if_pos (by simpa using h), if_pos h]
    unfold trueK
    rw [List.map_map]
    refine List.map_congr_left fun y _ => ?_
    show (if _ then _ else _) = _
    split <;> rfl
  · rw [if_neg (by simpa using h), if_neg h]
    unfold trueK
    rw [List.map_append]
    rfl
theorem addNew_len (acc : List Int) (x : Int) : (addNew acc x).length ≤ acc.length + 1 := by
  unfold addNew
  split
  · omega
  · rw [List.length_append, List.length_cons, List.length_nil]
    omega
theorem addNew_nodup {acc : List Int} (x : Int) (h : acc.Nodup) : (addNew acc x).Nodup := by
  unfold addNew
  split
  · exact h
  · rename_i hx
    refine List.nodup_append.mpr ⟨h, by simp, fun a ha b hb e => ?_⟩
    rw [List.mem_singleton] at hb
    subst e hb
    exact hx ha
theorem mem_addNew {acc : List Int} {x y : Int} : y ∈ addNew acc x ↔ y ∈ acc ∨ y = x := by
  unfold addNew
  split
  · rename_i h
    constructor
    · exact .inl
    · rintro (h1 | rfl)
      · exact h1
      · exact h
  · rw [List.mem_append, List.mem_singleton]
theorem dcomp_true {i : Nat} {ρ : Env} {p : Env → W Bool} {fk fv : Env → W D} (hp : ∀ x : Int, p (ρ.set i (some (enc x))) = W.pure true) (hk : ∀ x : Int, fk (ρ.set i (some (enc x))) = W.pure (enc x)) (hv : ∀ x : Int, fv (ρ.set i (some (enc x))) = W.pure (.bl true)) :
    ∀ (xs acc : List Int), acc.length + xs.length ≤ 100000 → dcompW (.nm i) p fk fv (xs.map enc) ρ (trueK acc) = W.pure (trueK (xs.foldl addNew acc))
  | [], acc, _ => rfl
  | x :: xs, acc, h => by
    rw [List.length_cons] at h
    have hl : (trueK acc).length < sizeLine := by
      unfold trueK
      rw [List.length_map]
      exact Nat.lt_of_lt_of_le (show acc.length < 1000000 by omega) (by unfold sizeLine; decide)
    have hl2 := addNew_len acc x
    rw [List.map_cons, dcompW, Tgt.set_nm, W.pure_bind, hp, W.pure_bind, if_pos rfl, hk, W.pure_bind, hv, W.pure_bind, show asKey (enc x) = some (Sum.inl x) from rfl, W.some?_some, W.pure_bind, W.need_bind hl, put_trueK, List.foldl_cons]
    exact dcomp_true hp hk hv xs (addNew acc x) (by omega)
theorem dc_true {i : Nat} {ρ ρ' : Env} {fi : Env → W (List D)} {p : Env → W Bool} {fk fv : Env → W D} {vs : List Nat} (xs : List Int) (hi : fi ρ = W.pure (xs.map enc)) (hw : wipeE ρ vs = ρ') (hl : xs.length ≤ 1000) (hp : ∀ x : Int, p (ρ'.set i (some (enc x))) = W.pure true) (hk : ∀ x : Int, fk (ρ'.set i (some (enc x))) = W.pure (enc x)) (hv : ∀ x : Int, fv (ρ'.set i (some (enc x))) = W.pure (.bl true)) :
    dcW fi (.nm i) p fk fv vs ρ = W.pure (.dK (trueK (xs.foldl addNew []))) := by
  have h := dcomp_true hp hk hv xs [] (by rw [List.length_nil]; omega)
  rw [show trueK [] = [] from rfl] at h
  unfold dcW
  rw [hi, W.pure_bind, hw, h, W.pure_bind]
theorem D.len_trueK (xs : List Int) : D.len [.dK (trueK xs)] = W.pure (.int xs.length) := by
  show W.pure (D.int ((trueK xs).length : Int)) = _
  unfold trueK
  rw [List.length_map]
/-! ### a dict whose keys are rows of ints -/
def rowK (ks : List (List Int)) : List (List Key × D) := ks.map fun k => (k.map Sum.inl, D.bl true)
def addRow (acc : List (List Int)) (x : List Int) : List (List Int) := if x ∈ acc then acc else acc ++ [x]
theorem inl_inj {a b : List Int} (h : a.map (Sum.inl (β := Str)) = b.map Sum.inl) : a = b := by
  induction a generalizing b with
  | nil => cases b with
    | nil => rfl
    | cons _ _ => cases h
  | cons x xs ih => cases b with
    | nil => cases h
    | cons y ys =>
      rw [List.map_cons, List.map_cons] at h
      obtain ⟨h1, h2⟩ := List.cons.inj h
      cases h1
      rw [ih h2]
theorem put_rowK (acc : List (List Int)) (x : List Int) : putD (rowK acc) (x.map Sum.inl) (D.bl true) = rowK (addRow acc x) := by
  unfold putD addRow
  have e : ((rowK acc).any fun kv => decide (kv.1 = x.map Sum.inl)) = decide (x ∈ acc) := by
    unfold rowK
    rw [List.any_map]
    induction acc with
    | nil => rfl
    | cons y ys ih =>
      rw [List.any_cons, ih]
      by_cases h : y = x
      · simp [h]
      · have h2 : ¬ x = y := fun e => h e.symm
        have h3 : ¬ (y.map (Sum.inl (β := Str)) = x.map Sum.inl) := fun e => h (inl_inj e)
        have h4 : decide (y.map (Sum.inl (β := Str)) = x.map Sum.inl) = false := decide_eq_false h3
        show (decide (y.map (Sum.inl (β := Str)) = x.map Sum.inl) || _) = _
        rw [h4]
        simp [h2]
  rw [e]
  by_cases h : x ∈ acc
  · rw [if_pos (by simpa using h), if_pos h]
    unfold rowK
    rw [List.map_map]
    refine List.map_congr_left fun y _ => ?_
    show (if _ then _ else _) = _
    split <;> rfl
  · rw [if_neg (by simpa using h), if_neg h]
    unfold rowK
    rw [List.map_append]
    rfl
theorem addRow_len (acc : List (List Int)) (x : List Int) : (addRow acc x).length ≤ acc.length + 1 := by
  unfold addRow
  split
  · omega
  · rw [List.length_append, List.length_cons, List.length_nil]
    omega
theorem mem_addRow {acc : List (List Int)} {x y : List Int} (h : y ∈ addRow acc x) : y ∈ acc ∨ y = x := by
  unfold addRow at h
  split at h
  · exact .inl h
  · rwa [List.mem_append, List.mem_singleton] at h
theorem asKeys_row : ∀ r : List Int, asKeys (r.map enc) = some (r.map Sum.inl)
  | [] => rfl
  | x :: xs => by rw [List.map_cons, asKeys, asKeys_row xs]; rfl
theorem D.put_row (acc : List (List Int)) (x : List Int) (h : acc.length ≤ 100000) : D.put (.dT (rowK acc)) (enc x) (.bl true) = W.pure (.dT (rowK (addRow acc x))) := by
  show (W.some? (asKeys (x.map enc))).bind (fun k => (W.need ((rowK acc).length < sizeLine)).bind fun _ => W.pure (D.dT (putD (rowK acc) k (D.bl true)))) = _
  have hl : (rowK acc).length < sizeLine := by
    unfold rowK
    rw [List.length_map]
    exact Nat.lt_of_lt_of_le (show acc.length < 1000000 by omega) (by unfold sizeLine; decide)
  rw [asKeys_row, W.some?_some, W.pure_bind, W.need_bind hl, put_rowK]
theorem D.sorted_row (ks : List (List Int)) (h : ks.length ≤ 100000) : D.sorted [.dT (rowK ks)] = W.pure (.lst ((csort ks).map enc)) := by
  have e : (rowK ks).map (fun kv => D.tup (kv.1.map keyD)) = ks.map enc := by
    unfold rowK
    rw [List.map_map]
    refine List.map_congr_left fun k _ => ?_
    show D.tup ((k.map Sum.inl).map keyD) = D.tup (k.map enc)
    rw [List.map_map]
    rfl
  show (W.pure ((rowK ks).map fun kv => D.tup (kv.1.map keyD))).bind (fun ds => (W.need (SortOk ds ∧ ds.length ≤ sizeLine)).bind fun _ => W.pure (D.lst (sortL ds))) = _
  rw [e, W.pure_bind]
  exact D.sorted_lst ks (size_le (by omega))
/-- four kinds among four: all apart -/
theorem four_apart {a b c d : Int} (h : ([a, b, c, d].foldl addNew []).length = 4) : [a, b, c, d].Nodup := by
  have hn : ([a, b, c, d].foldl addNew []).Nodup := by
    simp only [List.foldl_cons, List.foldl_nil]
    exact addNew_nodup _ (addNew_nodup _ (addNew_nodup _ (addNew_nodup _ List.nodup_nil)))
  have hs : ∀ x ∈ [a, b, c, d].foldl addNew [], x ∈ [a, b, c, d] := by
    intro x hx
    simp only [List.foldl_cons, List.foldl_nil, mem_addNew, List.not_mem_nil, false_or] at hx
    simp only [List.mem_cons, List.not_mem_nil, or_false]
    rcases hx with ((hx | hx) | hx) | hx <;> simp [hx]
  have no : ∀ x y z : Int, (∀ w ∈ [a, b, c, d], w ∈ [x, y, z]) → False := fun x y z hw => by
    have := hn.length_le_of_subset fun w hx => hw w (hs w hx)
    rw [h] at this
    simp at this
  refine List.nodup_cons.mpr ⟨fun ha => no b c d fun w hw => ?_, List.nodup_cons.mpr ⟨fun hb => no a c d fun w hw => ?_, List.nodup_cons.mpr ⟨fun hc => no a b d fun w hw => ?_, by simp⟩⟩⟩
  · rcases List.mem_cons.mp hw with rfl | hw
    · exact ha
    · exact hw
  · simp only [List.mem_cons, List.not_mem_nil, or_false] at hw hb ⊢
    rcases hw with rfl | rfl | rfl | rfl
    · simp
    · rcases hb with rfl | rfl <;> simp
    · simp
    · simp
  · simp only [List.mem_cons, List.not_mem_nil, or_false] at hw hc ⊢
    rcases hw with rfl | rfl | rfl | rfl <;> simp_all
end PW

set_option Elab.async false
set_option linter.all false
set_option maxRecDepth 100000
set_option maxHeartbeats 1000000
namespace PW
open PySem PySem.Spec PyProof.Rows L2 Cod
/-! ### data of kinds -/
mutual
def D.alk : D → Bool
  | .non | .bl _ | .int _ => true
  | .str x => PyData.strOk x
  | .tup xs | .lst xs => D.alkL xs
  | _ => false
def D.alkL : List D → Bool
  | [] => true
  | x :: xs => x.alk && D.alkL xs
end
mutual
def D.nodes : D → Nat
  | .tup xs | .lst xs => D.nodesL xs + 1
  | _ => 1
def D.nodesL : List D → Nat
  | [] => 0
  | x :: xs => x.nodes + D.nodesL xs
end
theorem while_run {p : Env → W Bool} {b : Env → W Out} {Q : Out → Prop} (I : Nat → Env → Prop) {ρ : Env} {n : Nat} (h0 : I n ρ)
    (hs : ∀ n ρ, I n ρ → (p ρ).run fun k => if k = true then (b ρ).run fun o => match o with
      | .nx ρ' => ∃ m, m < n ∧ I m ρ'
      | .ct ρ' => ∃ m, m < n ∧ I m ρ'
      | .bk ρ' => Q (.nx ρ')
      | .rt d => Q (.rt d)
      else Q (.nx ρ)) : (whileW p b ρ).run Q := by
  have key : ∀ (f n : Nat) (ρ : Env), n < f → I n ρ → (whileN p b f ρ).run Q := by
    intro f
    induction f with
    | zero => intro n ρ h; omega
    | succ f ih =>
      intro n ρ hn hI
      rw [whileN, W.run_bind]
      refine (p ρ).mono (fun k h => ?_) (hs n ρ hI)
      cases k with
      | false => exact h
      | true =>
        rw [if_pos rfl] at h ⊢
        rw [W.run_bind]
        refine (b ρ).mono (fun o h => ?_) h
        cases o with
        | nx ρ' => obtain ⟨m, h1, h2⟩ := h; exact ih m ρ' (by omega) h2
        | ct ρ' => obtain ⟨m, h1, h2⟩ := h; exact ih m ρ' (by omega) h2
        | bk ρ' => exact h
        | rt d => exact h
  exact ⟨n + 1, key (n + 1) n ρ (Nat.lt_succ_self n) h0⟩
section
theorem D.ne_non : D.ne .non .non = W.pure (.bl false) := by
  have e : SeqAt.shaped .none = true := by simp [SeqAt.shaped, PyData.canLay0, PyData.depth]
  unfold D.ne D.py?
  simp only [D.py, W.need_bind e, W.pure_bind, PyData.eqv, Bool.not_true]
theorem D.ne_bl (b : Bool) : D.ne (.bl b) (.bl b) = W.pure (.bl false) := by
  have e : SeqAt.shaped (.bool b) = true := by simp [SeqAt.shaped, PyData.canLay0, PyData.depth]
  unfold D.ne D.py?
  simp only [D.py, W.need_bind e, W.pure_bind, PyData.eqv, beq_self_eq_true, Bool.not_true]
theorem D.ne_str (b : Str) (hb : PyData.strOk b = true) : D.ne (.str b) (.str b) = W.pure (.bl false) := by
  have e : SeqAt.shaped (.str b) = true := by simp [SeqAt.shaped, PyData.canLay0, PyData.depth, hb]
  unfold D.ne D.py?
  simp only [D.py, W.need_bind e, W.pure_bind, PyData.eqv, beq_self_eq_true, Bool.not_true, decide_true]
theorem D.isi_non_bool : D.isi [(.non : D), .ty "bool"] = W.pure (.bl false) := rfl
theorem D.isi_non_str : D.isi [(.non : D), .ty "str"] = W.pure (.bl false) := rfl
theorem D.isi_non_tuple : D.isi [(.non : D), .ty "tuple"] = W.pure (.bl false) := rfl
theorem D.isi_non_list : D.isi [(.non : D), .ty "list"] = W.pure (.bl false) := rfl
theorem D.isi_non_int : D.isi [(.non : D), .ty "int"] = W.pure (.bl false) := rfl
theorem D.isi_non_tl : D.isi [(.non : D), .tup [.ty "tuple", .ty "list"]] = W.pure (.bl false) := rfl
theorem D.isi_bl_bool (b : Bool) : D.isi [(.bl b : D), .ty "bool"] = W.pure (.bl true) := rfl
theorem D.isi_bl_str (b : Bool) : D.isi [(.bl b : D), .ty "str"] = W.pure (.bl false) := rfl
theorem D.isi_bl_tuple (b : Bool) : D.isi [(.bl b : D), .ty "tuple"] = W.pure (.bl false) := rfl
theorem D.isi_bl_list (b : Bool) : D.isi [(.bl b : D), .ty "list"] = W.pure (.bl false) := rfl
theorem D.isi_bl_int (b : Bool) : D.isi [(.bl b : D), .ty "int"] = W.pure (.bl true) := rfl
theorem D.isi_bl_tl (b : Bool) : D.isi [(.bl b : D), .tup [.ty "tuple", .ty "list"]] = W.pure (.bl false) := rfl
theorem D.isi_int_bool (b : Int) : D.isi [(.int b : D), .ty "bool"] = W.pure (.bl false) := rfl
theorem D.isi_int_str (b : Int) : D.isi [(.int b : D), .ty "str"] = W.pure (.bl false) := rfl
theorem D.isi_int_tuple (b : Int) : D.isi [(.int b : D), .ty "tuple"] = W.pure (.bl false) := rfl
theorem D.isi_int_list (b : Int) : D.isi [(.int b : D), .ty "list"] = W.pure (.bl false) := rfl
theorem D.isi_int_int (b : Int) : D.isi [(.int b : D), .ty "int"] = W.pure (.bl true) := rfl
theorem D.isi_int_tl (b : Int) : D.isi [(.int b : D), .tup [.ty "tuple", .ty "list"]] = W.pure (.bl false) := rfl
theorem D.isi_str_bool (b : Str) : D.isi [(.str b : D), .ty "bool"] = W.pure (.bl false) := rfl
theorem D.isi_str_str (b : Str) : D.isi [(.str b : D), .ty "str"] = W.pure (.bl true) := rfl
theorem D.isi_str_tuple (b : Str) : D.isi [(.str b : D), .ty "tuple"] = W.pure (.bl false) := rfl
theorem D.isi_str_list (b : Str) : D.isi [(.str b : D), .ty "list"] = W.pure (.bl false) := rfl
theorem D.isi_str_int (b : Str) : D.isi [(.str b : D), .ty "int"] = W.pure (.bl false) := rfl
theorem D.isi_str_tl (b : Str) : D.isi [(.str b : D), .tup [.ty "tuple", .ty "list"]] = W.pure (.bl false) := rfl
theorem D.isi_tup_bool (b : List D) : D.isi [(.tup b : D), .ty "bool"] = W.pure (.bl false) := rfl
theorem D.isi_tup_str (b : List D) : D.isi [(.tup b : D), .ty "str"] = W.pure (.bl false) := rfl
theorem D.isi_tup_tuple (b : List D) : D.isi [(.tup b : D), .ty "tuple"] = W.pure (.bl true) := rfl
theorem D.isi_tup_list (b : List D) : D.isi [(.tup b : D), .ty "list"] = W.pure (.bl false) := rfl
theorem D.isi_tup_int (b : List D) : D.isi [(.tup b : D), .ty "int"] = W.pure (.bl false) := rfl
theorem D.isi_tup_tl (b : List D) : D.isi [(.tup b : D), .tup [.ty "tuple", .ty "list"]] = W.pure (.bl true) := rfl
theorem D.isi_lst_bool (b : List D) : D.isi [(.lst b : D), .ty "bool"] = W.pure (.bl false) := rfl
theorem D.isi_lst_str (b : List D) : D.isi [(.lst b : D), .ty "str"] = W.pure (.bl false) := rfl
theorem D.isi_lst_tuple (b : List D) : D.isi [(.lst b : D), .ty "tuple"] = W.pure (.bl false) := rfl
theorem D.isi_lst_list (b : List D) : D.isi [(.lst b : D), .ty "list"] = W.pure (.bl true) := rfl
theorem D.isi_lst_int (b : List D) : D.isi [(.lst b : D), .ty "int"] = W.pure (.bl false) := rfl
theorem D.isi_lst_tl (b : List D) : D.isi [(.lst b : D), .tup [.ty "tuple", .ty "list"]] = W.pure (.bl true) := rfl
theorem D.ne_bb (a b : Bool) : D.ne (.bl a) (.bl b) = W.pure (.bl (a != b)) := by
  have e : ∀ b, SeqAt.shaped (.bool b) = true := fun b => by simp [SeqAt.shaped, PyData.canLay0, PyData.depth]
  unfold D.ne D.py?
  simp only [D.py, W.need_bind (e a), W.need_bind (e b), W.pure_bind, PyData.eqv]
  cases a <;> cases b <;> rfl
theorem D.eq_bb (a b : Bool) : D.eq (.bl a) (.bl b) = W.pure (.bl (a == b)) := by
  have e : ∀ b, SeqAt.shaped (.bool b) = true := fun b => by simp [SeqAt.shaped, PyData.canLay0, PyData.depth]
  unfold D.eq D.py?
  simp only [D.py, W.need_bind (e a), W.need_bind (e b), W.pure_bind, PyData.eqv]
theorem D.alkL_of : ∀ {xs : List D}, (∀ x ∈ xs, x.alk = true) → D.alkL xs = true
  | [], _ => rfl
  | x :: xs, h => by rw [D.alkL, h x List.mem_cons_self, D.alkL_of fun y hy => h y (List.mem_cons_of_mem _ hy)]; rfl
theorem D.alkL_iff : ∀ {xs : List D}, D.alkL xs = true ↔ ∀ x ∈ xs, x.alk = true
  | [] => by simp [D.alkL]
  | x :: xs => by simp [D.alkL, D.alkL_iff (xs := xs)]
theorem D.nodesL_map {α : Type} (xs : List α) (f : α → D) (k : Nat) (h : ∀ x ∈ xs, (f x).nodes ≤ k) : D.nodesL (xs.map f) ≤ xs.length * k := by
  induction xs with
  | nil => simp [D.nodesL]
  | cons x xs ih =>
    have h1 := h x List.mem_cons_self
    have h2 := ih fun y hy => h y (List.mem_cons_of_mem _ hy)
    rw [List.map_cons, D.nodesL, List.length_cons, Nat.add_mul]
    omega
theorem D.nodesL_append : ∀ xs ys : List D, D.nodesL (xs ++ ys) = D.nodesL xs + D.nodesL ys
  | [], ys => by simp [D.nodesL]
  | x :: xs, ys => by rw [List.cons_append, D.nodesL, D.nodesL, D.nodesL_append xs ys]; omega
theorem D.nodes_pos : ∀ d : D, 1 ≤ d.nodes
  | .non | .bl _ | .int _ | .str _ | .ty _ | .dK _ | .dT _ | .rng _ _ | .fn _ | .bag | .scr => by simp [D.nodes]
  | .tup xs | .lst xs => by simp [D.nodes]
theorem D.len_nodes : ∀ xs : List D, xs.length ≤ D.nodesL xs
  | [] => by simp [D.nodesL]
  | x :: xs => by
    have h1 := D.nodes_pos x
    have h2 := D.len_nodes xs
    rw [D.nodesL, List.length_cons]
    omega
/-- a pair of the same -/
def dup (d : D) : D := .tup [d, d]
theorem zip_dup (xs : List D) : D.zip [.tup xs, .tup xs] = W.pure (xs.map dup) ∧ D.zip [.lst xs, .lst xs] = W.pure (xs.map dup) := by
  have e : zipD xs xs = xs.map dup := by
    unfold zipD
    induction xs with
    | nil => rfl
    | cons x xs ih => rw [List.zipWith_cons_cons, ih]; rfl
  exact ⟨by rw [← e]; rfl, by rw [← e]; rfl⟩
end
end PW

set_option Elab.async false
set_option linter.all false
set_option maxRecDepth 100000
set_option maxHeartbeats 1000000
namespace PW
open PySem PySem.Spec PyProof.Rows L2 Cod
open PySem.W (keyToks keyToksAll dataLe dataLt)
/-! ### the order of rows -/
theorem lexLt_cons_self (p : Int ⊕ List Nat) (l m : List (Int ⊕ List Nat)) : PyProof.Rows.lexLt itemOrd (p :: l) (p :: m) = PyProof.Rows.lexLt itemOrd l m := PyProof.Rows.lex_self (O := itemOrd) _ l m
theorem cle_cons (a b : Int) (as bs : List Int) : cle (a :: as) (b :: bs) = (decide (a < b) || (decide (a = b) && cle as bs)) := by
  have e : ∀ x y : List Int, cle x y = !PyProof.Rows.lexLt itemOrd (keyToks (.tuple (y.map py))) (keyToks (.tuple (x.map py))) := fun _ _ => rfl
  rw [e, e]
  rw [keyToks, keyToks, keyToks, keyToks]
  show (!PyProof.Rows.lexLt itemOrd (keyToksAll (PyData.int b :: bs.map py)) (keyToksAll (PyData.int a :: as.map py))) = _
  rw [keyToksAll, keyToksAll, keyToks, keyToks]
  simp only [List.cons_append, List.nil_append]
  rw [lexLt_cons_self]
  by_cases h : a = b
  · subst h
    rw [lexLt_cons_self]
    simp
  · rw [PyProof.Rows.lex_diff (O := itemOrd) (by intro e; cases e; exact h rfl)]
    show (!decide (b < a)) = _
    by_cases h2 : a < b
    · have : ¬ b < a := by omega
      simp [h2, this]
    · have : b < a := by omega
      simp [h2, this, h]
theorem cle_nil (bs : List Int) : cle [] bs = true := by
  have e : ∀ x y : List Int, cle x y = !PyProof.Rows.lexLt itemOrd (keyToks (.tuple (y.map py))) (keyToks (.tuple (x.map py))) := fun _ _ => rfl
  cases bs with
  | nil => exact (by have := cle_total ([] : List Int) []; simpa using this)
  | cons b bs =>
    rw [e, keyToks, keyToks]
    show (!PyProof.Rows.lexLt itemOrd (keyToksAll (PyData.int b :: bs.map py)) (keyToksAll [])) = _
    rw [keyToksAll, keyToksAll, PyProof.Rows.lex_diff (O := itemOrd) (by intro e; cases e)]
    rfl
theorem cle_nil_r (a : Int) (as : List Int) : cle (a :: as) [] = false := by
  have e : ∀ x y : List Int, cle x y = !PyProof.Rows.lexLt itemOrd (keyToks (.tuple (y.map py))) (keyToks (.tuple (x.map py))) := fun _ _ => rfl
  rw [e, keyToks, keyToks]
  show (!PyProof.Rows.lexLt itemOrd (keyToksAll []) (keyToksAll (PyData.int a :: as.map py))) = _
  rw [keyToksAll, keyToksAll, PyProof.Rows.lex_diff (O := itemOrd) (by intro e; cases e)]
  rfl
theorem cle_app (r u v : List Int) : cle (r ++ u) (r ++ v) = cle u v := by
  induction r with
  | nil => rfl
  | cons x r ih => rw [List.cons_append, List.cons_append, cle_cons, ih]; simp
theorem filter_eq_iff {α : Type} {p q : α → Bool} (xs : List α) : xs.filter p = xs.filter q ↔ ∀ x ∈ xs, p x = q x := by
  constructor
  · intro h x hx
    have h1 : x ∈ xs.filter p ↔ x ∈ xs.filter q := by rw [h]
    rw [List.mem_filter, List.mem_filter] at h1
    rw [Bool.eq_iff_iff]
    exact ⟨fun h2 => (h1.mp ⟨hx, h2⟩).2, fun h2 => (h1.mpr ⟨hx, h2⟩).2⟩
  · exact List.filter_congr
def pairs (n : Int) : List (Int × Int) := (rngI 0 n).flatMap fun i => ((rngI 0 n).filter fun j => decide (i < j)).map fun j => (i, j)
theorem pairs4 : pairs 4 = [(0, 1), (0, 2), (0, 3), (1, 2), (1, 3), (2, 3)] := by decide
theorem pairs5 : pairs 5 = [(0, 1), (0, 2), (0, 3), (0, 4), (1, 2), (1, 3), (1, 4), (2, 3), (2, 4), (3, 4)] := by decide
end PW

set_option Elab.async false
set_option linter.all false
set_option maxRecDepth 100000
set_option maxHeartbeats 1000000
namespace PW
open PySem PySem.Spec PyProof.Rows L2 Cod
open PySem.W (keyToks keyToksAll alike alikeAll dataLe dataLt)
/-! ### words as typed data -/
structure OkS where
  s : Str
  ok : PyData.strOk s = true
  deriving DecidableEq
instance : Cod OkS where
  enc x := .str x.s
  py x := .str x.s
  tupk := false
  dep := 0
  hpy _ := rfl
  lay x := by simp [PyData.canLay0, x.ok]
  hdep _ := by simp [PyData.depth]
  eqv x y := by
    obtain ⟨x, hx⟩ := x
    obtain ⟨y, hy⟩ := y
    simp only [PyData.eqv]
    by_cases h : x = y <;> simp [h]
  toks x y r r' h := by
    obtain ⟨⟨⟨x⟩⟩, hx⟩ := x
    obtain ⟨⟨⟨y⟩⟩, hy⟩ := y
    simp only [keyToks, List.cons_append, List.nil_append, List.cons.injEq, Sum.inr.injEq] at h
    obtain ⟨h1, h2⟩ := h
    subst h1
    exact ⟨rfl, h2⟩
  alk x y := by simp [alike]
  nn x := by simp
  tk1 h := by cases h
  tk2 _ x xs := by simp
instance : Cod Bool where
  enc := .bl
  py := .bool
  tupk := false
  dep := 0
  hpy _ := rfl
  lay _ := by simp [PyData.canLay0]
  hdep _ := by simp [PyData.depth]
  eqv x y := by
    simp only [PyData.eqv]
    cases x <;> cases y <;> rfl
  toks x y r r' h := by
    simp only [keyToks, List.cons_append, List.nil_append, List.cons.injEq, Sum.inl.injEq] at h
    obtain ⟨h1, h2⟩ := h
    refine ⟨?_, h2⟩
    cases x <;> cases y <;> simp at h1 ⊢
  alk x y := by simp [alike]
  nn x := by simp
  tk1 h := by cases h
  tk2 _ x xs := by simp
def wd (s : String) (h : PyData.strOk (Str.ofString s) = true := by decide +kernel) : OkS := ⟨Str.ofString s, h⟩
theorem enc_wd (s : String) (h : PyData.strOk (Str.ofString s) = true) : (enc (wd s h) : D) = .str (Str.ofString s) := rfl
theorem enc_bl (b : Bool) : (enc b : D) = .bl b := rfl
/-! ### typed data are alike -/
class Alk (α : Type) [DecidableEq α] [Cod α] : Prop where
  alk : ∀ x : α, (enc x : D).alk = true
instance : Alk Int := ⟨fun _ => rfl⟩
instance : Alk Bool := ⟨fun _ => rfl⟩
instance : Alk OkS := ⟨fun x => x.ok⟩
instance {α : Type} [DecidableEq α] [Cod α] [Alk α] : Alk (List α) := ⟨fun xs => by
  rw [enc_list, D.alk]
  exact D.alkL_of fun d hd => by obtain ⟨x, _, rfl⟩ := List.mem_map.mp hd; exact Alk.alk x⟩
instance {α β : Type} [DecidableEq α] [Cod α] [Alk α] [DecidableEq β] [Cod β] [Alk β] : Alk (α × β) := ⟨fun x => by
  rw [enc_pair, D.alk, D.alkL, D.alkL, D.alkL, Alk.alk, Alk.alk]
  rfl⟩
end PW

set_option Elab.async false
set_option linter.all false
set_option maxRecDepth 100000
set_option maxHeartbeats 1000000
namespace PW
open PySem PySem.Spec PyProof.Rows L2 Cod
theorem szT : (0 ≤ sizeLine) = True := eq_true (size_le (by decide))
theorem szT1 : (0 + 1 ≤ sizeLine) = True := eq_true (size_le (by decide))
theorem szT2 : (0 + 1 + 1 ≤ sizeLine) = True := eq_true (size_le (by decide))
theorem szT3 : (0 + 1 + 1 + 1 ≤ sizeLine) = True := eq_true (size_le (by decide))
theorem szT4 : (0 + 1 + 1 + 1 + 1 ≤ sizeLine) = True := eq_true (size_le (by decide))
theorem szT5 : (0 + 1 + 1 + 1 + 1 + 1 ≤ sizeLine) = True := eq_true (size_le (by decide))
theorem szT6 : (0 + 1 + 1 + 1 + 1 + 1 + 1 ≤ sizeLine) = True := eq_true (size_le (by decide))
theorem szT7 : (0 + 1 + 1 + 1 + 1 + 1 + 1 + 1 ≤ sizeLine) = True := eq_true (size_le (by decide))
theorem szT8 : (0 + 1 + 1 + 1 + 1 + 1 + 1 + 1 + 1 ≤ sizeLine) = True := eq_true (size_le (by decide))
theorem szT9 : (0 + 1 + 1 + 1 + 1 + 1 + 1 + 1 + 1 + 1 ≤ sizeLine) = True := eq_true (size_le (by decide))
theorem szT10 : (0 + 1 + 1 + 1 + 1 + 1 + 1 + 1 + 1 + 1 + 1 ≤ sizeLine) = True := eq_true (size_le (by decide))
theorem szT11 : (0 + 1 + 1 + 1 + 1 + 1 + 1 + 1 + 1 + 1 + 1 + 1 ≤ sizeLine) = True := eq_true (size_le (by decide))
theorem szT12 : (0 + 1 + 1 + 1 + 1 + 1 + 1 + 1 + 1 + 1 + 1 + 1 + 1 ≤ sizeLine) = True := eq_true (size_le (by decide))
theorem szT13 : (0 + 1 + 1 + 1 + 1 + 1 + 1 + 1 + 1 + 1 + 1 + 1 + 1 + 1 ≤ sizeLine) = True := eq_true (size_le (by decide))
theorem szT14 : (0 + 1 + 1 + 1 + 1 + 1 + 1 + 1 + 1 + 1 + 1 + 1 + 1 + 1 + 1 ≤ sizeLine) = True := eq_true (size_le (by decide))
theorem szT15 : (0 + 1 + 1 + 1 + 1 + 1 + 1 + 1 + 1 + 1 + 1 + 1 + 1 + 1 + 1 + 1 ≤ sizeLine) = True := eq_true (size_le (by decide))
/-! ### dicts of new keys -/
theorem put_new {κ : Type} [DecidableEq κ] {kvs : List (κ × D)} {k : κ} {v : D} (h : k ∉ kvs.map (·.1)) : putD kvs k v = kvs ++ [(k, v)] := by
  unfold putD
  rw [if_neg]
  intro e
  obtain ⟨x, hx, hk⟩ := List.any_eq_true.mp e
  exact h (List.mem_map.mpr ⟨x, hx, of_decide_eq_true hk⟩)
theorem dcomp_new {α : Type} {t : Tgt} {ρ : Env} {p : Env → W Bool} {fk fv : Env → W D} (e : α → D) (st : α → Env) (k : α → Key) (v : α → D) :
    ∀ (xs : List α) (acc : List (Key × D)), (∀ x ∈ xs, t.set (e x) ρ = W.pure (st x)) → (∀ x ∈ xs, p (st x) = W.pure true) → (∀ x ∈ xs, fk (st x) = W.pure (keyD (k x))) → (∀ x ∈ xs, fv (st x) = W.pure (v x)) →
      (acc.map (·.1) ++ xs.map k).Nodup → acc.length + xs.length ≤ 100000 → dcompW t p fk fv (xs.map e) ρ acc = W.pure (acc ++ xs.map fun x => (k x, v x))
  | [], acc, _, _, _, _, _, _ => by rw [List.map_nil, dcompW, List.map_nil, List.append_nil]
  | x :: xs, acc, ht, hp, hk, hv, hn, hl => by
    rw [List.length_cons] at hl
    rw [List.map_cons] at hn
    have hx : k x ∉ acc.map (·.1) := fun h => (List.nodup_append.mp hn).2.2 _ h _ List.mem_cons_self rfl
    have hky : ∀ q : Key, asKey (keyD q) = some q := fun q => by cases q <;> rfl
    rw [List.map_cons, dcompW, ht x List.mem_cons_self, W.pure_bind, hp x List.mem_cons_self, W.pure_bind, if_pos rfl, hk x List.mem_cons_self, W.pure_bind, hv x List.mem_cons_self, W.pure_bind, hky, W.some?_some, W.pure_bind, W.need_bind (Nat.lt_of_lt_of_le (show acc.length < 1000000 by omega) (by unfold sizeLine; decide)), put_new hx,
      dcomp_new e st k v xs _ (fun y hy => ht y (List.mem_cons_of_mem _ hy)) (fun y hy => hp y (List.mem_cons_of_mem _ hy)) (fun y hy => hk y (List.mem_cons_of_mem _ hy)) (fun y hy => hv y (List.mem_cons_of_mem _ hy)) (by rw [List.map_append, List.append_assoc]; exact hn) (by rw [List.length_append, List.length_cons, List.length_nil]; omega), List.append_assoc]
    rfl
theorem dc_new {α : Type} {t : Tgt} {ρ ρ' : Env} {fi : Env → W (List D)} {p : Env → W Bool} {fk fv : Env → W D} {vs : List Nat} (xs : List α) (e : α → D) (st : α → Env) (k : α → Key) (v : α → D) (hi : fi ρ = W.pure (xs.map e)) (hw : wipeE ρ vs = ρ')
    (ht : ∀ x ∈ xs, t.set (e x) ρ' = W.pure (st x)) (hp : ∀ x ∈ xs, p (st x) = W.pure true) (hk : ∀ x ∈ xs, fk (st x) = W.pure (keyD (k x))) (hv : ∀ x ∈ xs, fv (st x) = W.pure (v x)) (hn : (xs.map k).Nodup) (hl : xs.length ≤ 100000) :
    dcW fi t p fk fv vs ρ = W.pure (.dK (xs.map fun x => (k x, v x))) := by
  unfold dcW
  rw [hi, W.pure_bind, hw, dcomp_new e st k v xs [] ht hp hk hv (by simpa using hn) (by simpa using hl), W.pure_bind]
  rfl
theorem getK_map {α κ : Type} [DecidableEq κ] (xs : List α) (k : α → κ) (v : α → D) (hn : (xs.map k).Nodup) {x : α} (hx : x ∈ xs) : getK (xs.map fun x => (k x, v x)) (k x) = some (v x) := by
  unfold getK
  induction xs with
  | nil => cases hx
  | cons y ys ih =>
    rw [List.map_cons] at hn
    obtain ⟨h1, h2⟩ := List.nodup_cons.mp hn
    rw [List.map_cons, List.find?_cons]
    rcases List.mem_cons.mp hx with rfl | hx
    · simp
    · have : k y ≠ k x := fun e => h1 (by rw [e]; exact List.mem_map.mpr ⟨x, hx, rfl⟩)
      simp only [this, decide_false]
      exact ih h2 hx
theorem getK_none {α κ : Type} [DecidableEq κ] (xs : List α) (k : α → κ) (v : α → D) {q : κ} (hq : q ∉ xs.map k) : getK (xs.map fun x => (k x, v x)) q = none := by
  unfold getK
  rw [Option.map_eq_none_iff, List.find?_eq_none]
  intro kv hkv
  obtain ⟨x, hx, rfl⟩ := List.mem_map.mp hkv
  intro e
  exact hq (List.mem_map.mpr ⟨x, hx, of_decide_eq_true e⟩)
/-- the places of the people of a row -/
def places (l : List Int) : List (Key × D) := (enumI l).map fun p => ((Sum.inl p.2 : Key), D.int p.1)
theorem places_keys (l : List Int) : (enumI l).map (fun p => (Sum.inl p.2 : Key)) = l.map Sum.inl := by
  conv => rhs; rw [← enumI_snd l]
  rw [List.map_map]
  rfl
theorem inl_nodup {l : List Int} (h : l.Nodup) : (l.map (Sum.inl : Int → Key)).Nodup := by
  unfold List.Nodup
  rw [List.pairwise_map]
  exact h.imp fun {a b} h e => h (by cases e; rfl)
theorem enumI_mem {l : List Int} {i : Nat} (h : i < l.length) : ((i : Int), l[i]) ∈ enumI l := List.mem_of_getElem? (enumI_get l i h)
theorem places_at {l : List Int} (hn : l.Nodup) {i : Nat} (h : i < l.length) : getK (places l) (Sum.inl l[i]) = some (.int i) := by
  have := getK_map (enumI l) (fun p => (Sum.inl p.2 : Key)) (fun p => D.int p.1) (by rw [places_keys]; exact inl_nodup hn) (enumI_mem h)
  exact this
theorem places_in (l : List Int) (hn : l.Nodup) (x : Int) : D.in (.int x) (.dK (places l)) = W.pure (.bl (decide (x ∈ l))) := by
  show ((W.pure (getK (places l) (Sum.inl x))).bind fun r => W.pure r.isSome).bind (fun b => W.pure (D.bl b)) = _
  by_cases h : x ∈ l
  · obtain ⟨i, hi, rfl⟩ := List.getElem_of_mem h
    rw [places_at hn hi, decide_eq_true h]
    rfl
  · rw [show getK (places l) (Sum.inl x) = none from getK_none (enumI l) (fun p => (Sum.inl p.2 : Key)) (fun p => D.int p.1) (by
      rw [places_keys]
      intro e
      obtain ⟨y, hy, e⟩ := List.mem_map.mp e
      cases e
      exact h hy), decide_eq_false h]
    rfl
theorem places_ix {l : List Int} (hn : l.Nodup) {x : Int} (h : x ∈ l) : D.ix (.dK (places l)) (.int x) = W.pure (.int (l.idxOf x : Int)) := by
  show (W.pure (getK (places l) (Sum.inl x))).bind W.some? = _
  have hi : l.idxOf x < l.length := List.idxOf_lt_length_iff.mpr h
  have e : l[l.idxOf x] = x := List.getElem_idxOf hi
  have := places_at hn hi
  rw [e] at this
  rw [this]
  rfl
end PW

set_option linter.all false
namespace GT
/-! ### sums over a list -/
def sm {α : Type} (V : List α) (f : α → Int) : Int := (V.map f).sum
def ind (b : Bool) : Int := if b then 1 else 0
section
variable {α β : Type} {V U : List α} {f g : α → Int}
theorem sm_nil : sm ([] : List α) f = 0 := rfl
theorem sm_cons (x : α) : sm (x :: V) f = f x + sm V f := by unfold sm; rw [List.map_cons, List.sum_cons]
theorem sm_append : sm (V ++ U) f = sm V f + sm U f := by unfold sm; rw [List.map_append, List.sum_append]
theorem sm_congr (h : ∀ x ∈ V, f x = g x) : sm V f = sm V g := by unfold sm; rw [List.map_congr_left h]
theorem sm_add : sm V (fun x => f x + g x) = sm V f + sm V g := by
  induction V with
  | nil => rfl
  | cons x V ih => rw [sm_cons, sm_cons, sm_cons, ih]; omega
theorem sm_sub : sm V (fun x => f x - g x) = sm V f - sm V g := by
  induction V with
  | nil => rfl
  | cons x V ih => rw [sm_cons, sm_cons, sm_cons, ih]; omega
theorem sm_mul (c : Int) : sm V (fun x => c * f x) = c * sm V f := by
  induction V with
  | nil => simp [sm_nil]
  | cons x V ih => rw [sm_cons, sm_cons, ih, Int.mul_add]
theorem sm_mulr (c : Int) : sm V (fun x => f x * c) = sm V f * c := by
  rw [Int.mul_comm, ← sm_mul]
  exact sm_congr fun x _ => Int.mul_comm _ _
theorem sm_const (c : Int) : sm V (fun _ => c) = c * V.length := by
  induction V with
  | nil => simp [sm_nil]
  | cons x V ih => rw [sm_cons, ih, List.length_cons]; push_cast; rw [Int.mul_add]; omega
theorem sm_zero : sm V (fun _ => 0) = 0 := by rw [sm_const]; simp
theorem sm_le (h : ∀ x ∈ V, f x ≤ g x) : sm V f ≤ sm V g := by
  induction V with
  | nil => exact Int.le_refl _
  | cons x V ih =>
    have h1 := h x List.mem_cons_self
    have h2 := ih fun y hy => h y (List.mem_cons_of_mem _ hy)
    rw [sm_cons, sm_cons]
    omega
theorem sm_nn (h : ∀ x ∈ V, 0 ≤ f x) : 0 ≤ sm V f := by
  have := sm_le (V := V) (f := fun _ => 0) (g := f) h
  rwa [sm_zero] at this
theorem sm_eq0 (h : ∀ x ∈ V, 0 ≤ f x) (h0 : sm V f = 0) : ∀ x ∈ V, f x = 0 := by
  induction V with
  | nil => intro x hx; cases hx
  | cons y V ih =>
    have h1 := h y List.mem_cons_self
    have h2 := sm_nn (V := V) fun z hz => h z (List.mem_cons_of_mem _ hz)
    rw [sm_cons] at h0
    intro x hx
    rcases List.mem_cons.mp hx with rfl | hx
    · omega
    · exact ih (fun z hz => h z (List.mem_cons_of_mem _ hz)) (by omega) x hx
theorem sm_comm {U : List β} (F : α → β → Int) : sm V (fun u => sm U (fun v => F u v)) = sm U (fun v => sm V (fun u => F u v)) := by
  induction V with
  | nil => simp only [sm_nil, sm_zero]
  | cons x V ih => simp only [sm_cons, sm_add, ih]
theorem sm_perm (h : V.Perm U) : sm V f = sm U f := by
  induction h with
  | nil => rfl
  | cons x _ ih => rw [sm_cons, sm_cons, ih]
  | swap x y l => rw [sm_cons, sm_cons, sm_cons, sm_cons]; omega
  | trans _ _ h1 h2 => rw [h1, h2]
theorem sm_filter (p : α → Bool) : sm (V.filter p) f = sm V (fun v => if p v then f v else 0) := by
  induction V with
  | nil => rfl
  | cons x V ih =>
    rw [sm_cons, List.filter_cons]
    cases q : p x with
    | true => simp [sm_cons, ih]
    | false => simp [ih]
theorem sm_one [DecidableEq α] (h : V.Nodup) {z : α} (hz : z ∈ V) : sm V (fun v => if v = z then f v else 0) = f z := by
  induction V with
  | nil => cases hz
  | cons x V ih =>
    have hx := (List.nodup_cons.mp h).1
    have hn := (List.nodup_cons.mp h).2
    rw [sm_cons]
    rcases List.mem_cons.mp hz with rfl | hz
    · have e : sm V (fun v => if v = z then f v else 0) = sm V (fun _ => 0) := sm_congr fun v hv => by
        have : v ≠ z := fun e => hx (e ▸ hv)
        simp [this]
      rw [e, sm_zero]
      simp
    · have : x ≠ z := fun e => hx (e ▸ hz)
      rw [ih hn hz]
      simp [this]
theorem sm_none [DecidableEq α] {z : α} (hz : z ∉ V) : sm V (fun v => if v = z then f v else 0) = 0 := by
  have e : sm V (fun v => if v = z then f v else 0) = sm V (fun _ => 0) := sm_congr fun v hv => by
    have : v ≠ z := fun e => hz (e ▸ hv)
    simp [this]
  rw [e, sm_zero]
theorem sm_count (p : α → Bool) : sm V (fun v => ind (p v)) = ((V.filter p).length : Int) := by
  induction V with
  | nil => rfl
  | cons x V ih =>
    rw [sm_cons, ih, List.filter_cons]
    unfold ind
    cases q : p x with
    | true => simp; omega
    | false => simp
end
theorem ind_nn (b : Bool) : 0 ≤ ind b := by cases b <;> simp [ind]
theorem ind_le (b : Bool) : ind b ≤ 1 := by cases b <;> simp [ind]
theorem ind_eq0 {b : Bool} : ind b = 0 ↔ b = false := by cases b <;> simp [ind]
/-! ### a graph: people, who knows whom -/
structure Gr (V : List Int) (A : Int → Int → Bool) : Prop where
  nd : V.Nodup
  sy : ∀ u v, A u v = A v u
  ir : ∀ v, A v v = false
section
variable {V : List Int} {A : Int → Int → Bool}
def deg (V : List Int) (A : Int → Int → Bool) (v : Int) : Int := sm V fun w => ind (A v w)
/-- ordered pairs that a lot has wrong -/
def wr (A : Int → Int → Bool) (s : Int → Bool) (u v : Int) : Bool := !decide (u = v) && ((s u && s v && !A u v) || (!s u && !s v && A u v))
def Wd (V : List Int) (A : Int → Int → Bool) (s : Int → Bool) : Int := sm V fun u => sm V fun v => ind (wr A s u v)
def siz (V : List Int) (s : Int → Bool) : Int := sm V fun v => ind (s v)
theorem Wd_nn (s : Int → Bool) : 0 ≤ Wd V A s := sm_nn fun u _ => sm_nn fun v _ => ind_nn _
theorem wr_ind (G : Gr V A) (s : Int → Bool) (u v : Int) : ind (wr A s u v) = (ind (s u) * ind (s v) - (if u = v then ind (s u) else 0)) + (ind (A u v) - ind (s u) * ind (A u v) - ind (s v) * ind (A v u)) := by
  rw [G.sy v u]
  unfold wr
  by_cases h : u = v
  · subst h
    rw [G.ir]
    cases s u <;> simp [ind]
  · simp only [h, decide_false, if_false]
    cases s u <;> cases s v <;> cases A u v <;> simp [ind]
theorem Wd_eq (G : Gr V A) (s : Int → Bool) : Wd V A s = siz V s * siz V s - siz V s + (sm V (deg V A) - 2 * sm V fun u => ind (s u) * deg V A u) := by
  unfold Wd
  have e : (sm V fun u => sm V fun v => ind (wr A s u v)) = sm V fun u => ((ind (s u) * siz V s - ind (s u)) + ((deg V A u - ind (s u) * deg V A u) - sm V fun v => ind (s v) * ind (A v u))) := by
    refine sm_congr fun u hu => ?_
    rw [sm_congr (g := fun v => (ind (s u) * ind (s v) - (if v = u then ind (s v) else 0)) + ((ind (A u v) - ind (s u) * ind (A u v)) - ind (s v) * ind (A v u))) fun v _ => by
      rw [wr_ind G]
      by_cases h : u = v
      · subst h; simp
      · have h2 : ¬ v = u := fun e => h e.symm
        simp [h, h2]]
    rw [sm_add, sm_sub, sm_sub, sm_sub, sm_mul, sm_mul, sm_one G.nd hu]
    rfl
  rw [e, sm_add, sm_sub, sm_sub, sm_sub, sm_mulr, sm_comm]
  have e2 : (sm V fun v => sm V fun u => ind (s v) * ind (A v u)) = sm V fun v => ind (s v) * deg V A v := sm_congr fun v _ => by rw [sm_mul]; rfl
  rw [e2]
  unfold siz
  omega
def ab (x : Int) : Int := if 0 ≤ x then x else -x
/-- the least that a lot can have wrong, told by any number -/
def low (V : List Int) (A : Int → Int → Bool) (c : Int) : Int := c * V.length - sm V (fun v => ab (deg V A v - c)) - c * (c + 1)
theorem sq_ge (k c : Int) : 0 ≤ (k - c) * (k - c - 1) := by
  rcases Int.lt_or_le (k - c) 1 with h | h
  · have := Int.mul_nonneg (a := -(k - c)) (b := -(k - c - 1)) (by omega) (by omega)
    rwa [Int.neg_mul_neg] at this
  · exact Int.mul_nonneg (by omega) (by omega)
theorem Wd_split (G : Gr V A) (s : Int → Bool) (c : Int) : Wd V A s = (siz V s - c) * (siz V s - c - 1) - c * (c + 1) + c * V.length + sm V fun v => (1 - 2 * ind (s v)) * (deg V A v - c) := by
  rw [Wd_eq G]
  have e : (sm V fun v => (1 - 2 * ind (s v)) * (deg V A v - c)) = sm V fun v => (deg V A v - 2 * (ind (s v) * deg V A v)) - (c - (2 * c) * ind (s v)) := sm_congr fun v _ => by grind
  rw [e, sm_sub, sm_sub, sm_sub, sm_mul, sm_const, sm_mul]
  unfold siz
  grind
theorem Wd_ge (G : Gr V A) (s : Int → Bool) (c : Int) : low V A c ≤ Wd V A s := by
  rw [Wd_split G s c]
  have h1 := sq_ge (siz V s) c
  have h2 : (sm V fun v => 0 - ab (deg V A v - c)) ≤ sm V fun v => (1 - 2 * ind (s v)) * (deg V A v - c) := sm_le fun v _ => by
    unfold ab
    cases s v <;> simp [ind] <;> split <;> omega
  rw [sm_sub, sm_zero] at h2
  unfold low
  omega
theorem Wd_opt (G : Gr V A) (s : Int → Bool) (c : Int) (h1 : ∀ v ∈ V, s v = true → c ≤ deg V A v) (h2 : ∀ v ∈ V, s v = false → deg V A v ≤ c) (hk : siz V s = c + 1 ∨ siz V s = c) : Wd V A s = low V A c := by
  rw [Wd_split G s c]
  have e : (sm V fun v => (1 - 2 * ind (s v)) * (deg V A v - c)) = sm V fun v => 0 - ab (deg V A v - c) := sm_congr fun v hv => by
    cases q : s v with
    | true =>
      have := h1 v hv q
      unfold ab
      rw [if_pos (by omega)]
      simp [ind]
      try omega
    | false =>
      have := h2 v hv q
      unfold ab
      rw [show ind false = 0 from rfl]
      split <;> omega
  rw [e, sm_sub, sm_zero]
  unfold low
  rcases hk with hk | hk <;> rw [hk] <;> grind
theorem Wd_zero {s : Int → Bool} (h : Wd V A s = 0) {u v : Int} (hu : u ∈ V) (hv : v ∈ V) : wr A s u v = false := by
  have h1 := sm_eq0 (fun u _ => sm_nn fun v _ => ind_nn _) h u hu
  exact ind_eq0.mp (sm_eq0 (fun v _ => ind_nn _) h1 v hv)
theorem Wd_of {s : Int → Bool} (h : ∀ u ∈ V, ∀ v ∈ V, wr A s u v = false) : Wd V A s = 0 := by
  unfold Wd
  rw [sm_congr (g := fun _ => 0) fun u hu => by
    rw [sm_congr (g := fun _ => 0) fun v hv => by rw [h u hu v hv]; rfl, sm_zero], sm_zero]
/-! ### no bars: a parting -/
structure NoBar (V : List Int) (A : Int → Int → Bool) : Prop where
  sq : ∀ a ∈ V, ∀ b ∈ V, ∀ c ∈ V, ∀ d ∈ V, A a b = true → A b c = true → A c d = true → A d a = true → a ≠ c → b ≠ d → A a c = false → A b d = false → False
  far : ∀ a ∈ V, ∀ b ∈ V, ∀ c ∈ V, ∀ d ∈ V, A a b = true → A c d = true → a ≠ c → a ≠ d → b ≠ c → b ≠ d → A a c = false → A a d = false → A b c = false → A b d = false → False
  five : ∀ a ∈ V, ∀ b ∈ V, ∀ c ∈ V, ∀ d ∈ V, ∀ e ∈ V, [a, b, c, d, e].Nodup → A a b = true → A b c = true → A c d = true → A d e = true → A e a = true → A a c = false → A a d = false → A b d = false → A b e = false → A c e = false → False
def Clq (V : List Int) (A : Int → Int → Bool) (s : Int → Bool) : Prop := (∀ v, s v = true → v ∈ V) ∧ ∀ u v, s u = true → s v = true → u ≠ v → A u v = true
def wt (V : List Int) (A : Int → Int → Bool) (s : Int → Bool) : Int := sm V fun v => if s v then deg V A v + 1 else 0
theorem deg_nn (v : Int) : 0 ≤ deg V A v := sm_nn fun _ _ => ind_nn _
theorem wt_le (s : Int → Bool) : wt V A s ≤ sm V fun v => deg V A v + 1 := sm_le fun v _ => by
  have := deg_nn (V := V) (A := A) v
  split <;> omega
/-- a heaviest clique -/
theorem heaviest : ∃ s, Clq V A s ∧ ∀ t, Clq V A t → wt V A t ≤ wt V A s := by
  have key : ∀ (n : Nat) (s : Int → Bool), Clq V A s → (sm V (fun v => deg V A v + 1) - wt V A s).toNat ≤ n → ∃ s, Clq V A s ∧ ∀ t, Clq V A t → wt V A t ≤ wt V A s := by
    intro n
    induction n with
    | zero =>
      intro s hs h
      refine ⟨s, hs, fun t ht => ?_⟩
      have := wt_le (V := V) (A := A) t
      omega
    | succ n ih =>
      intro s hs h
      by_cases q : ∀ t, Clq V A t → wt V A t ≤ wt V A s
      · exact ⟨s, hs, q⟩
      · obtain ⟨t, h2⟩ := Classical.not_forall.mp q
        obtain ⟨ht, h3⟩ := Classical.not_imp.mp h2
        exact ih t ht (by omega)
  exact key _ (fun _ => false) ⟨fun v h => (Bool.false_ne_true h).elim, fun u v h => (Bool.false_ne_true h).elim⟩ (Nat.le_refl _)
theorem deg_lt_of (G : Gr V A) {y z : Int} (h : ∀ w ∈ V, A z w = true → A y w = true) {x : Int} (hx : x ∈ V) (h1 : A y x = true) (h2 : A z x = false) : deg V A z < deg V A y := by
  unfold deg
  have e : (sm V fun w => ind (A z w) + (if w = x then 1 else 0)) ≤ sm V fun w => ind (A y w) := sm_le fun w hw => by
    by_cases q : w = x
    · subst q
      rw [h1, h2]
      simp [ind]
    · rw [if_neg q]
      have := h w hw
      cases q1 : A z w with
      | true => rw [this q1]; simp
      | false => have := ind_nn (A y w); simp [ind] at this ⊢; omega
  rw [sm_add, sm_one (f := fun _ => 1) G.nd hx] at e
  omega
theorem wt_add (G : Gr V A) {s : Int → Bool} {y : Int} (hy : y ∈ V) (hs : s y = false) : wt V A (fun v => s v || decide (v = y)) = wt V A s + (deg V A y + 1) := by
  unfold wt
  rw [← sm_one (f := fun v => deg V A v + 1) G.nd hy, ← sm_add]
  refine sm_congr fun v _ => ?_
  by_cases q : v = y
  · subst q
    simp [hs]
  · cases hsv : s v <;> simp [q, hsv]
theorem wt_sub (G : Gr V A) {s : Int → Bool} {z : Int} (hz : z ∈ V) (hs : s z = true) : wt V A (fun v => s v && !decide (v = z)) = wt V A s - (deg V A z + 1) := by
  unfold wt
  rw [← sm_one (f := fun v => deg V A v + 1) G.nd hz, ← sm_sub]
  refine sm_congr fun v _ => ?_
  by_cases q : v = z
  · subst q
    simp [hs]
  · cases hsv : s v <;> simp [q, hsv]
theorem not_all {p : Int → Bool} {s : Int → Bool} (h : ¬ ∀ u, s u = true → p u = true) : ∃ u, s u = true ∧ p u = false := by
  obtain ⟨u, h⟩ := Classical.not_forall.mp h
  obtain ⟨h1, h2⟩ := Classical.not_imp.mp h
  exact ⟨u, h1, by simpa using h2⟩
theorem ne_of {a b c : Int} (h1 : A a b = true) (h2 : A a c = false) : b ≠ c := fun e => by rw [e, h2] at h1; cases h1
/-- two outside the heaviest clique that know each other, the second with fewer strangers in it -/
theorem nested (G : Gr V A) (B : NoBar V A) {s : Int → Bool} (hc : Clq V A s) (hm : ∀ t, Clq V A t → wt V A t ≤ wt V A s) {x y : Int} (hx : x ∈ V) (hy : y ∈ V) (sx : s x = false) (sy : s y = false) (xy : A x y = true)
    (hn : ∀ u, s u = true → A y u = false → A x u = false) : False := by
  have sym := G.sy
  have irr := G.ir
  -- each one outside has a stranger inside
  have out : ∀ w ∈ V, s w = false → ∃ u, s u = true ∧ A w u = false := fun w hw sw => by
    refine not_all fun all => ?_
    have h1 := hm (fun v => s v || decide (v = w)) ⟨fun v hv => ?_, fun u v hu hv ne => ?_⟩
    · rw [wt_add G hw sw] at h1
      have := deg_nn (V := V) (A := A) w
      omega
    · rcases Bool.or_eq_true_iff.mp hv with hv | hv
      · exact hc.1 v hv
      · rw [of_decide_eq_true hv]; exact hw
    · rcases Bool.or_eq_true_iff.mp hu with hu | hu <;> rcases Bool.or_eq_true_iff.mp hv with hv | hv
      · exact hc.2 u v hu hv ne
      · rw [of_decide_eq_true hv, sym]; exact all u hu
      · rw [of_decide_eq_true hu]; exact all v hv
      · exact absurd ((of_decide_eq_true hu).trans (of_decide_eq_true hv).symm) ne
  obtain ⟨z, sz, yz⟩ := out y hy sy
  have xz := hn z sz yz
  have hz := hc.1 z sz
  have nxz : x ≠ z := fun e => by rw [e, sz] at sx; cases sx
  have nyz : y ≠ z := fun e => by rw [e, sz] at sy; cases sy
  -- only one
  have one : ∀ u, s u = true → u ≠ z → A y u = true := fun u su ne => by
    cases q : A y u with
    | true => rfl
    | false =>
      have xu := hn u su q
      exact (B.far x hx y hy u (hc.1 u su) z hz xy (hc.2 u z su sz ne) (fun e => by rw [e, su] at sx; cases sx) nxz (fun e => by rw [e, su] at sy; cases sy) nyz xu xz q yz).elim
  -- y in the place of z
  have dle : deg V A y ≤ deg V A z := by
    have h1 := hm (fun v => (s v && !decide (v = z)) || decide (v = y)) ⟨fun v hv => ?_, fun u v hu hv ne => ?_⟩
    · rw [wt_add (s := fun v => s v && !decide (v = z)) G hy (by simp [sy]), wt_sub G hz sz] at h1
      omega
    · rcases Bool.or_eq_true_iff.mp hv with hv | hv
      · exact hc.1 v (Bool.and_eq_true_iff.mp hv).1
      · rw [of_decide_eq_true hv]; exact hy
    · have nz : ∀ w : Int, (s w && !decide (w = z)) = true → s w = true ∧ w ≠ z := fun w h => by simpa using h
      rcases Bool.or_eq_true_iff.mp hu with hu | hu <;> rcases Bool.or_eq_true_iff.mp hv with hv | hv
      · exact hc.2 u v (nz u hu).1 (nz v hv).1 ne
      · rw [of_decide_eq_true hv, sym]; exact one u (nz u hu).1 (nz u hu).2
      · rw [of_decide_eq_true hu]; exact one v (nz v hv).1 (nz v hv).2
      · exact absurd ((of_decide_eq_true hu).trans (of_decide_eq_true hv).symm) ne
  have ⟨w, hw, zw, yw⟩ : ∃ w ∈ V, A z w = true ∧ A y w = false := by
    refine Classical.byContradiction fun no => ?_
    have := deg_lt_of G (y := y) (z := z) (fun w hw h => ?_) hx (by rw [sym]; exact xy) (by rw [sym]; exact xz)
    · omega
    · cases q : A y w with
      | true => rfl
      | false => exact absurd ⟨w, hw, h, q⟩ no
  have nwz : w ≠ z := fun e => by rw [e, irr] at zw; cases zw
  have nwy : w ≠ y := fun e => by rw [e, sym, yz] at zw; cases zw
  have sw : s w = false := by
    cases q : s w with
    | false => rfl
    | true => rw [one w q nwz] at yw; cases yw
  have nxw : x ≠ w := fun e => by rw [← e, sym, xy] at yw; cases yw
  have xw : A x w = true := by
    cases q : A x w with
    | true => rfl
    | false => exact (B.far x hx y hy z hz w hw xy zw nxz nxw nyz nwy.symm xz q yz yw).elim
  obtain ⟨u, su, wu⟩ := out w hw sw
  have hu := hc.1 u su
  have nuz : u ≠ z := fun e => by rw [e, sym, zw] at wu; cases wu
  have yu := one u su nuz
  have uz := hc.2 u z su sz nuz
  have nxu : x ≠ u := fun e => by rw [e, su] at sx; cases sx
  have nwu : w ≠ u := fun e => by rw [e, su] at sw; cases sw
  have nyu : y ≠ u := fun e => by rw [e, su] at sy; cases sy
  have nxy : x ≠ y := fun e => by rw [e, irr] at xy; cases xy
  cases q : A x u with
  | true => exact B.sq x hx w hw z hz u hu xw (by rw [sym]; exact zw) (by rw [sym]; exact uz) (by rw [sym]; exact q) nxz nwu xz wu
  | false =>
    refine B.five x hx y hy u hu z hz w hw ?_ xy yu uz zw (by rw [sym]; exact xw) q xz yz yw (by rw [sym]; exact wu)
    simp only [List.nodup_cons, List.mem_cons, List.not_mem_nil, or_false, not_or, List.nodup_nil, and_true, not_false_eq_true]
    exact ⟨⟨nxy, nxu, nxz, nxw⟩, ⟨nyu, nyz, nwy.symm⟩, ⟨nuz, nwu.symm⟩, nwz.symm⟩
theorem split_of (G : Gr V A) (B : NoBar V A) : ∃ s, (∀ v, s v = true → v ∈ V) ∧ Wd V A s = 0 := by
  obtain ⟨s, hc, hm⟩ := heaviest (V := V) (A := A)
  refine ⟨s, hc.1, Wd_of fun u hu v hv => ?_⟩
  unfold wr
  by_cases e : u = v
  · simp [e]
  cases su : s u with
  | true =>
    cases sv : s v with
    | true => simp [hc.2 u v su sv e]
    | false => simp
  | false =>
    cases sv : s v with
    | true => simp
    | false =>
      cases q : A u v with
      | false => simp
      | true =>
        exfalso
        by_cases h : ∀ w, (s w && !A v w) = true → (!A u w) = true
        · exact nested G B hc hm hu hv su sv q fun w sw hw => by simpa using h w (by simp [sw, hw])
        · obtain ⟨w, h1, h2⟩ := not_all (p := fun w => !A u w) (s := fun w => s w && !A v w) h
          have h1 : s w = true ∧ A v w = false := by simpa using h1
          have h2 : A u w = true := by simpa using h2
          by_cases h' : ∀ w, (s w && !A u w) = true → (!A v w) = true
          · exact nested G B hc hm hv hu sv su (by rw [G.sy]; exact q) fun w sw hw => by simpa using h' w (by simp [sw, hw])
          · obtain ⟨x, h3, h4⟩ := not_all (p := fun w => !A v w) (s := fun w => s w && !A u w) h'
            have h3 : s x = true ∧ A u x = false := by simpa using h3
            have h4 : A v x = true := by simpa using h4
            have nwx : w ≠ x := ne_of h2 h3.2
            exact B.sq u hu v hv x (hc.1 x h3.1) w (hc.1 w h1.1) q h4 (hc.2 x w h3.1 h1.1 nwx.symm) (by rw [G.sy]; exact h2) (fun e => by rw [e, h3.1] at su; cases su) (fun e => by rw [e, h1.1] at sv; cases sv) h3.2 h1.2
end
end GT

set_option linter.all false
namespace GT
section
variable {V : List Int} {A A' : Int → Int → Bool}
theorem even_sym (F : Int → Int → Int) (hs : ∀ u v, F u v = F v u) (hd : ∀ v, F v v = 0) : ∃ m, sm V (fun u => sm V (F u)) = 2 * m := by
  induction V with
  | nil => exact ⟨0, rfl⟩
  | cons x V ih =>
    obtain ⟨m, h⟩ := ih
    refine ⟨sm V (F x) + m, ?_⟩
    have e : (sm V fun u => sm (x :: V) (F u)) = sm V (fun u => F x u + sm V (F u)) := sm_congr fun u _ => by rw [sm_cons, hs u x]
    rw [sm_cons, sm_cons, hd, e, sm_add, h]
    show 0 + sm V (F x) + (sm V (F x) + 2 * m) = _
    omega
theorem Wd_even (G : Gr V A) (s : Int → Bool) : ∃ m, Wd V A s = 2 * m := even_sym (fun u v => ind (wr A s u v)) (fun u v => by
    have e : wr A s u v = wr A s v u := by
      unfold wr
      rw [G.sy v u]
      have : decide (u = v) = decide (v = u) := by rw [decide_eq_decide]; exact eq_comm
      rw [this]
      cases s u <;> cases s v <;> simp
    rw [e]) fun v => by simp [wr, ind]
/-- the lack: the least that any lot has wrong -/
structure IsLack (V : List Int) (A : Int → Int → Bool) (m : Int) : Prop where
  ex : ∃ s, (∀ v, s v = true → v ∈ V) ∧ Wd V A s = m
  le : ∀ s, m ≤ Wd V A s
theorem IsLack.nn {m : Int} (h : IsLack V A m) : 0 ≤ m := by
  obtain ⟨s, _, e⟩ := h.ex
  rw [← e]
  exact Wd_nn s
theorem IsLack.even (G : Gr V A) {m : Int} (h : IsLack V A m) : ∃ k, m = 2 * k := by
  obtain ⟨s, _, e⟩ := h.ex
  rw [← e]
  exact Wd_even G s
theorem IsLack.uniq {m m' : Int} (h : IsLack V A m) (h' : IsLack V A m') : m = m' := by
  obtain ⟨s, _, e⟩ := h.ex
  obtain ⟨s', _, e'⟩ := h'.ex
  have := h.le s'
  have := h'.le s
  omega
/-! one couple told otherwise -/
structure Tog (V : List Int) (A A' : Int → Int → Bool) (a b : Int) : Prop where
  ha : a ∈ V
  hb : b ∈ V
  ne : a ≠ b
  eq : ∀ u v, A' u v = if (u = a ∧ v = b) ∨ (u = b ∧ v = a) then !A u v else A u v
theorem Tog.deg (G : Gr V A) {a b : Int} (t : Tog V A A' a b) (v : Int) : deg V A' v = deg V A v + (if v = a then 1 - 2 * ind (A a b) else 0) + (if v = b then 1 - 2 * ind (A a b) else 0) := by
  have ne := t.ne
  have key : ∀ w, ind (A' v w) = ind (A v w) + (if w = b then (if v = a then 1 - 2 * ind (A a b) else 0) else 0) + (if w = a then (if v = b then 1 - 2 * ind (A a b) else 0) else 0) := fun w => by
    rw [t.eq]
    by_cases h1 : v = a
    · subst h1
      by_cases h2 : w = b
      · subst h2
        have : ¬ w = v := fun e => ne e.symm
        simp only [true_and, true_or, if_true, this, if_false]
        cases A v w <;> simp [ind]
      · simp [h2, ne]
    · by_cases h2 : v = b
      · subst h2
        by_cases h3 : w = a
        · subst h3
          have : ¬ w = v := fun e => ne e
          simp only [h1, false_and, true_and, or_true, if_true, this, if_false]
          rw [G.sy v w]
          cases A w v <;> simp [ind]
        · simp [h3, h1]
      · simp [h1, h2]
  unfold GT.deg
  rw [sm_congr fun w _ => key w, sm_add, sm_add, sm_one (f := fun _ => _) G.nd t.hb, sm_one (f := fun _ => _) G.nd t.ha]
theorem Tog.wd (G : Gr V A) (G' : Gr V A') {a b : Int} (t : Tog V A A' a b) (s : Int → Bool) : Wd V A' s = Wd V A s + 2 * ((1 - 2 * ind (A a b)) * (1 - ind (s a) - ind (s b))) := by
  rw [Wd_eq G, Wd_eq G']
  have e1 : sm V (GT.deg V A') = sm V (GT.deg V A) + (1 - 2 * ind (A a b)) + (1 - 2 * ind (A a b)) := by
    rw [sm_congr fun v _ => t.deg G v, sm_add, sm_add, sm_one (f := fun _ => _) G.nd t.ha, sm_one (f := fun _ => _) G.nd t.hb]
  have e2 : (sm V fun u => ind (s u) * GT.deg V A' u) = (sm V fun u => ind (s u) * GT.deg V A u) + ind (s a) * (1 - 2 * ind (A a b)) + ind (s b) * (1 - 2 * ind (A a b)) := by
    rw [← sm_one (f := fun v => ind (s v) * (1 - 2 * ind (A a b))) G.nd t.ha, ← sm_one (f := fun v => ind (s v) * (1 - 2 * ind (A a b))) G.nd t.hb, ← sm_add, ← sm_add]
    refine sm_congr fun v _ => ?_
    rw [t.deg G v, Int.mul_add, Int.mul_add]
    split <;> split <;> simp
  rw [e1, e2]
  grind
theorem Tog.near (G : Gr V A) (G' : Gr V A') {a b : Int} (t : Tog V A A' a b) (s : Int → Bool) : Wd V A' s ≤ Wd V A s + 2 ∧ Wd V A s ≤ Wd V A' s + 2 := by
  rw [t.wd G G' s]
  cases A a b <;> cases s a <;> cases s b <;> simp [ind] <;> omega
theorem Tog.lack (G : Gr V A) (G' : Gr V A') {a b : Int} (t : Tog V A A' a b) {m m' : Int} (h : IsLack V A m) (h' : IsLack V A' m') : m' - m = -2 ∨ m' - m = 0 ∨ m' - m = 2 := by
  obtain ⟨s, _, e⟩ := h.ex
  obtain ⟨s', _, e'⟩ := h'.ex
  have h1 := h.le s'
  have h2 := h'.le s
  have h3 := (t.near G G' s).1
  have h4 := (t.near G G' s').2
  obtain ⟨k, h5⟩ := h.even G
  obtain ⟨k', h6⟩ := h'.even G'
  omega
/-- a couple that makes less wrong -/
theorem IsLack.better (G : Gr V A) {m : Int} (h : IsLack V A m) (h0 : m ≠ 0) : ∃ a b, a ∈ V ∧ b ∈ V ∧ a < b ∧ ∀ A' m', Gr V A' → Tog V A A' a b → IsLack V A' m' → m' < m := by
  obtain ⟨s, _, e⟩ := h.ex
  have hex : ∃ u ∈ V, ∃ v ∈ V, wr A s u v = true := Classical.byContradiction fun no => h0 (by
    rw [← e]
    refine Wd_of fun u hu v hv => ?_
    cases q : wr A s u v with
    | false => rfl
    | true => exact absurd ⟨u, hu, v, hv, q⟩ no)
  obtain ⟨u, hu, v, hv, q⟩ := hex
  have go : ∀ A' m', Gr V A' → Tog V A A' u v → IsLack V A' m' → m' < m := fun A' m' G' t h' => by
    have h2 := h'.le s
    rw [t.wd G G' s, e] at h2
    unfold wr at q
    cases hA : A u v <;> cases h3 : s u <;> cases h4 : s v <;> simp [hA, h3, h4] at q <;> simp [ind, hA, h3, h4] at h2 <;> omega
  have huv : u ≠ v := by
    intro e
    unfold wr at q
    simp [e] at q
  rcases Int.lt_or_gt_of_ne huv with hlt | hlt
  · exact ⟨u, v, hu, hv, hlt, go⟩
  · refine ⟨v, u, hv, hu, hlt, fun A' m' G' t h' => go A' m' G' ⟨t.hb, t.ha, huv, fun x y => ?_⟩ h'⟩
    rw [t.eq]
    have : ((x = v ∧ y = u) ∨ (x = u ∧ y = v)) = ((x = u ∧ y = v) ∨ (x = v ∧ y = u)) := propext Or.comm
    simp only [this]
/-! the others as strangers -/
theorem Wd_turn {s s' : Int → Bool} (hA : ∀ u ∈ V, ∀ v ∈ V, u ≠ v → A' u v = !A u v) (hs : ∀ v ∈ V, s' v = !s v) : Wd V A' s' = Wd V A s := by
  unfold Wd
  refine sm_congr fun u hu => sm_congr fun v hv => ?_
  unfold wr
  by_cases e : u = v
  · simp [e]
  · rw [hA u hu v hv e, hs u hu, hs v hv]
    cases s u <;> cases s v <;> cases A u v <;> simp
theorem Wd_congr {s s' : Int → Bool} (hA : ∀ u ∈ V, ∀ v ∈ V, u ≠ v → A' u v = A u v) (hs : ∀ v ∈ V, s' v = s v) : Wd V A' s' = Wd V A s := by
  unfold Wd
  refine sm_congr fun u hu => sm_congr fun v hv => ?_
  unfold wr
  by_cases e : u = v
  · simp [e]
  · rw [hA u hu v hv e, hs u hu, hs v hv]
theorem IsLack.turn {m m' : Int} (hA : ∀ u ∈ V, ∀ v ∈ V, u ≠ v → A' u v = !A u v) (h : IsLack V A m) (h' : IsLack V A' m') : m' = m := by
  obtain ⟨s, _, e⟩ := h.ex
  obtain ⟨s', _, e'⟩ := h'.ex
  have h1 := h.le (fun v => !s' v)
  have h2 := h'.le (fun v => !s v)
  rw [Wd_turn (s := s) hA fun _ _ => rfl] at h2
  have e3 : Wd V A' s' = Wd V A (fun v => !s' v) := Wd_turn hA fun v _ => by simp
  omega
/-! some of the people alone -/
theorem sm_sub_le {α : Type} {V U : List α} {f : α → Int} (h : U.Sublist V) (hf : ∀ v ∈ V, 0 ≤ f v) : sm U f ≤ sm V f := by
  induction h with
  | slnil => exact Int.le_refl _
  | cons x _ ih =>
    have h1 := hf x List.mem_cons_self
    have h2 := ih fun y hy => hf y (List.mem_cons_of_mem _ hy)
    rw [sm_cons]
    omega
  | cons_cons x _ ih =>
    have h2 := ih fun y hy => hf y (List.mem_cons_of_mem _ hy)
    rw [sm_cons, sm_cons]
    omega
theorem sm_map {α β : Type} {U : List α} (g : α → β) (f : β → Int) : sm (U.map g) f = sm U fun x => f (g x) := by
  unfold sm
  rw [List.map_map]
  rfl
theorem IsLack.part {U : List Int} {g : Int → Int} {m m' : Int} (hs : (U.map g).Sublist V) (hi : ∀ u ∈ U, ∀ v ∈ U, g u = g v → u = v) (hA : ∀ u ∈ U, ∀ v ∈ U, u ≠ v → A' u v = A (g u) (g v)) (h : IsLack V A m) (h' : IsLack U A' m') : m' ≤ m := by
  obtain ⟨s, _, e⟩ := h.ex
  have h1 := h'.le (fun v => s (g v))
  have h2 : Wd U A' (fun v => s (g v)) = Wd (U.map g) A s := by
    unfold Wd
    rw [sm_map]
    refine sm_congr fun u hu => ?_
    rw [sm_map]
    refine sm_congr fun v hv => ?_
    unfold wr
    by_cases q : u = v
    · simp [q]
    · have : ¬ g u = g v := fun e => q (hi u hu v hv e)
      rw [hA u hu v hv q]
      simp [q, this]
  have h3 : Wd (U.map g) A s ≤ Wd V A s := by
    unfold Wd
    refine Int.le_trans (sm_le fun u _ => sm_sub_le (f := fun v => ind (wr A s u v)) hs fun _ _ => ind_nn _) ?_
    exact sm_sub_le hs fun _ _ => sm_nn fun _ _ => ind_nn _
  omega
/-! counts tell it -/
theorem Wd_counts (G : Gr V A) (G' : Gr V A') (h : ∀ v ∈ V, deg V A' v = deg V A v) (s : Int → Bool) : Wd V A' s = Wd V A s := by
  have e2 : (sm V fun u => ind (s u) * deg V A' u) = sm V fun u => ind (s u) * deg V A u := sm_congr fun v hv => by rw [h v hv]
  rw [Wd_eq G, Wd_eq G', sm_congr h, e2]
/-! a parting: no bars -/
theorem NoBar.of {s : Int → Bool} (G : Gr V A) (h : Wd V A s = 0) : NoBar V A := by
  have key : ∀ u ∈ V, ∀ v ∈ V, u ≠ v → (s u = true → s v = true → A u v = true) ∧ (s u = false → s v = false → A u v = false) := fun u hu v hv e => by
    have := Wd_zero h hu hv
    unfold wr at this
    constructor
    · intro h1 h2; cases q : A u v <;> simp [h1, h2, e, q] at this ⊢
    · intro h1 h2; cases q : A u v <;> simp [h1, h2, e, q] at this ⊢
  have ne : ∀ {u v : Int}, A u v = true → u ≠ v := fun h e => by rw [e, G.ir] at h; cases h
  -- who knows a guest is a member; a stranger of a member is a guest
  have mem : ∀ u ∈ V, ∀ v ∈ V, A u v = true → s u = false → s v = true := fun u hu v hv h hs => by
    cases q : s v with
    | true => rfl
    | false => rw [(key u hu v hv (ne h)).2 hs q] at h; cases h
  have gst : ∀ u ∈ V, ∀ v ∈ V, u ≠ v → A u v = false → s u = true → s v = false := fun u hu v hv hn h hs => by
    cases q : s v with
    | false => rfl
    | true => rw [(key u hu v hv hn).1 hs q] at h; cases h
  refine ⟨fun a ha b hb c hc d hd ab bc cd da nac nbd ac bd => ?_, fun a ha b hb c hc d hd ab cd nac nad nbc nbd ac ad bc bd => ?_, fun a ha b hb c hc d hd e he nd ab bc cd de ea ac ad bd be ce => ?_⟩
  · cases sa : s a with
    | true =>
      have sc := gst a ha c hc nac ac sa
      have sb := mem c hc b hb (by rw [G.sy]; exact bc) sc
      have sd := mem c hc d hd cd sc
      have := gst b hb d hd nbd bd sb
      rw [sd] at this; cases this
    | false =>
      have sb := mem a ha b hb ab sa
      have sd := mem a ha d hd (by rw [G.sy]; exact da) sa
      have := gst b hb d hd nbd bd sb
      rw [sd] at this; cases this
  · cases sa : s a with
    | true =>
      have sc := gst a ha c hc nac ac sa
      have sd := gst a ha d hd nad ad sa
      have := mem c hc d hd cd sc
      rw [sd] at this; cases this
    | false =>
      have sb := mem a ha b hb ab sa
      have sc := gst b hb c hc nbc bc sb
      have sd := gst b hb d hd nbd bd sb
      have := mem c hc d hd cd sc
      rw [sd] at this; cases this
  · simp only [List.nodup_cons, List.mem_cons, List.not_mem_nil, or_false, not_or, List.nodup_nil, and_true, not_false_eq_true] at nd
    obtain ⟨⟨nab, nac, nad, nae⟩, ⟨nbc, nbd, nbe⟩, ⟨ncd, nce⟩, nde⟩ := nd
    cases sa : s a with
    | true =>
      have sc := gst a ha c hc nac ac sa
      have sd := gst a ha d hd nad ad sa
      have := mem c hc d hd cd sc
      rw [sd] at this; cases this
    | false =>
      have sb := mem a ha b hb ab sa
      have sd := gst b hb d hd nbd bd sb
      have se := gst b hb e he nbe be sb
      have := mem d hd e he de sd
      rw [se] at this; cases this
end
end GT

set_option Elab.async false
set_option linter.all false
set_option maxRecDepth 100000
set_option maxHeartbeats 4000000
namespace P92
open PySem PySem.Spec PyProof.Rows L2 PW
def free : List Str := ["isinstance", "all", "zip", "range", "min", "max", "len", "tuple", "list", "sorted", "enumerate", "sum", "any", "int", "abs", "set", "dict", "str", "bool"]
def cons : List (Str × D) := []
noncomputable section
def F__law_bag : List D → W D
  | [.scr] => W.pure .bag
  | _ => W.fail
def F__law_take : List D → W D
  | [.bag, .int n] => (W.need (1 ≤ n ∧ n < 1073741824)).bind fun _ => W.fa (fun k : Int => 0 ≤ k ∧ k < n) fun k => .int k
  | _ => W.fail

/-! _law_bag -/
def M__law_bag : Mo := ⟨[], 0, free, cons⟩
def S__law_bag : Fix := ⟨["script", "cell"], C8.fnScope (st 75), fun _ => true, []⟩
def B__law_bag : { w : PW.Env → W Out // EvSs M__law_bag S__law_bag (C8.fnBody (st 75)) w } := ⟨_,
  (ss_one (s_ret (v_newbag (av_cons v_int (av_cons v_int (av_cons v_int (av_cons (f_lc [("cell", 1)] (i_val (v_scr63 (v_var 0).toB)) (g_nm 1) ts_nil (v_callB c_abs (ab_cons (v_var 1).toB ab_nil))).toV av_nil)))))))⟩
def G__law_bag : List D → W D := defW 1 2 B__law_bag.1
/-! _law_take -/
def M__law_take : Mo := ⟨[], 0, free, cons⟩
def S__law_take : Fix := ⟨["bag", "many", "cell", "stirred", "value", "begin", "second"], C8.fnScope (st 76), fun _ => true, []⟩
def B__law_take : { w : PW.Env → W Out // EvSs M__law_take S__law_take (C8.fnBody (st 76)) w } := ⟨_,
  (ss_cons (s_if (t_cmp o_eq (v_bagI (.inl rfl) (v_var 0).toB).toB v_int.toB) (ss_cons (s_set 2 (v_ix (v_bin o_add (v_slice (v_bagC (v_var 0).toB).toB (p_some (v_bagI (.inr (.inr rfl)) (v_var 0).toB)) p_none).toB (f_lst (av_cons v_int av_nil)).toV.toB).toB v_int))
  (ss_cons (s_bagaug (v_var 0).toB v_int)
  (ss_cons (s_if (t_cmp o_ge (v_var 2).toB (PW.v_pow ⟨by decide, by decide, by decide⟩).toB) (ss_one (s_bagset (.inl rfl) (v_var 0).toB (v_var 2))) ss_nil)
  (ss_cons (s_set 3 (v_bin o_add (v_bin o_add (v_bin o_mul (v_bagI (.inr (.inl rfl)) (v_var 0).toB).toB v_int.toB).toB (v_bin o_mod (v_callT c_int (ab_cons (v_var 2).toB ab_nil)).toB v_int.toB).toB).toB (v_bin o_mul v_int.toB (v_bagI (.inr (.inr rfl)) (v_var 0).toB).toB).toB))
  (ss_one (s_bagset (.inr (.inl rfl)) (v_var 0).toB (v_bin o_mod (v_callT c_int (ab_cons (v_var 3).toB ab_nil)).toB v_int.toB))))))) ss_nil)
  (ss_cons (s_if (t_cmp o_gt (v_bagI (.inl rfl) (v_var 0).toB).toB v_int.toB) (ss_cons (s_set 4 (v_bin o_mod (v_callT c_int (ab_cons (v_bagI (.inl rfl) (v_var 0).toB).toB ab_nil)).toB (v_var 1).toB))
  (ss_cons (s_bagset (.inl rfl) (v_var 0).toB (v_bin o_fdiv (v_callT c_int (ab_cons (v_bagI (.inl rfl) (v_var 0).toB).toB ab_nil)).toB (v_var 1).toB))
  (ss_one (s_ret (v_var 4))))) ss_nil)
  (ss_cons (s_set 5 (v_bin o_mod (v_callT c_int (ab_cons (v_bin o_mul (v_bin o_add (v_bagI (.inr (.inl rfl)) (v_var 0).toB).toB v_int.toB).toB v_int.toB).toB ab_nil)).toB v_int.toB))
  (ss_cons (s_set 6 (v_bin o_mod (v_callT c_int (ab_cons (v_bin o_mul (v_bin o_mod (v_callT c_int (ab_cons (v_bin o_mul (v_var 5).toB (v_var 5).toB).toB ab_nil)).toB v_int.toB).toB v_int.toB).toB ab_nil)).toB v_int.toB))
  (ss_one (s_ret (v_bin o_mod (v_callT c_int (ab_cons (v_bin o_fdiv (v_var 6).toB v_int.toB).toB ab_nil)).toB (v_var 1).toB)))))))⟩
def G__law_take : List D → W D := defW 2 7 B__law_take.1
/-! _law_some -/
def M__law_some : Mo := ⟨[("_law_take", F__law_take)], 1, free, cons⟩
def S__law_some : Fix := ⟨["bag", "things"], C8.fnScope (st 77), fun _ => true, []⟩
def B__law_some : { w : PW.Env → W Out // EvSs M__law_some S__law_some (C8.fnBody (st 77)) w } := ⟨_,
  (ss_one (s_ret (v_ix (v_var 1).toB (v_call 0 (av_cons (v_var 0) (av_cons (v_callB c_len (ab_cons (v_var 1).toB ab_nil)) av_nil))))))⟩
def F__law_some : List D → W D := defW 2 2 B__law_some.1
/-! _law_lots -/
def M__law_lots : Mo := ⟨[], 0, free, cons⟩
def S__law_lots : Fix := ⟨["many", "found", "one", "lot"], C8.fnScope (st 81), fun _ => true, []⟩
def B__law_lots : { w : PW.Env → W Out // EvSs M__law_lots S__law_lots (C8.fnBody (st 81)) w } := ⟨_,
  (ss_cons (s_set 1 (f_lst (av_cons (v_tup av_nil) av_nil)).toV)
  (ss_cons (s_for (i_range1 (ab_cons (v_var 0).toB ab_nil)) (g_nm 2) (ss_one (s_set 1 (v_bin o_add (v_var 1).toB (f_lc [("lot", 3)] (i_val (v_var 1)) (g_nm 3) ts_nil (v_bin o_add (v_var 3).toB (v_tup (av_cons (v_var 2) av_nil)).toB)).toV.toB))))
  (ss_one (s_ret (f_callB c_sorted (ab_cons (v_var 1).toB ab_nil)).toV))))⟩
def F__law_lots : List D → W D := defW 1 4 B__law_lots.1
/-! _law_couples -/
def M__law_couples : Mo := ⟨[], 0, free, cons⟩
def S__law_couples : Fix := ⟨["many", "found", "a", "b"], C8.fnScope (st 80), fun _ => true, [1]⟩
def B__law_couples : { w : PW.Env → W Out // EvSs M__law_couples S__law_couples (C8.fnBody (st 80)) w } := ⟨_,
  (ss_cons (s_setF 1 (f_lst av_nil))
  (ss_cons (s_for (i_range1 (ab_cons (v_var 0).toB ab_nil)) (g_nm 2) (ss_one (s_extend 1 (f_lc [("b", 3)] (i_range2 (ab_cons (v_bin o_add (v_var 2).toB v_int.toB).toB (ab_cons (v_var 0).toB ab_nil))) (g_nm 3) ts_nil (v_tup (av_cons (v_var 2) (av_cons (v_var 3) av_nil)))).toV.toB)))
  (ss_one (s_retM 1))))⟩
def F__law_couples : List D → W D := defW 1 4 B__law_couples.1
/-! _law_parted -/
def M__law_parted : Mo := ⟨[("_law_take", F__law_take), ("_law_some", F__law_some), ("_law_lots", F__law_lots), ("_law_couples", F__law_couples)], 2, free, cons⟩
def S__law_parted : Fix := ⟨["bag", "most", "many", "lot", "known", "a", "b", "both"], C8.fnScope (st 93), fun _ => true, []⟩
def B__law_parted : { w : PW.Env → W Out // EvSs M__law_parted S__law_parted (C8.fnBody (st 93)) w } := ⟨_,
  (ss_cons (s_set 2 (v_bin o_add v_int.toB (v_call 0 (av_cons (v_var 0) (av_cons (v_var 1) av_nil))).toB))
  (ss_cons (s_set 3 (v_call 1 (av_cons (v_var 0) (av_cons (v_call 2 (av_cons (v_var 2) av_nil)) av_nil))))
  (ss_cons (s_set 4 (f_lst av_nil).toV)
  (ss_cons (s_for (i_val (v_call 3 (av_cons (v_var 2) av_nil))) (g_tp (gs_cons (g_nm 5) (gs_cons (g_nm 6) gs_nil))) (ss_cons (s_set 7 (v_bin o_add (v_callT c_int (ab_cons (v_cmp1 o_in (v_var 5) (v_var 3).toB).toB ab_nil)).toB (v_callT c_int (ab_cons (v_cmp1 o_in (v_var 6) (v_var 3).toB).toB ab_nil)).toB))
  (ss_one (s_set 4 (v_bin o_add (v_var 4).toB (v_bin o_mul (f_lst (av_cons (v_tup (av_cons (v_var 5) (av_cons (v_var 6) av_nil))) av_nil)).toV.toB (v_callT c_int (ab_cons (v_or (v_cmp o_eq (v_var 7).toB v_int.toB) (v_one (v_and (v_cmp o_eq (v_var 7).toB v_int.toB) (v_one (v_cmp o_eq (v_call 0 (av_cons (v_var 0) (av_cons v_int av_nil))).toB v_int.toB))))).toB ab_nil)).toB).toB)))))
  (ss_one (s_ret (v_tup (av_cons (v_tup (av_cons (v_var 2) (av_cons (v_callT c_tuple (ab_cons (v_var 4).toB ab_nil)) av_nil))) (av_cons (v_var 3) av_nil)))))))))⟩
def F__law_parted : List D → W D := defW 2 8 B__law_parted.1
/-! _law_table -/
def M__law_table : Mo := ⟨[("_law_parted", F__law_parted), ("_law_take", F__law_take), ("_law_couples", F__law_couples)], 3, free, cons⟩
def S__law_table : Fix := ⟨["bag", "most", "table", "lot", "way", "chance", "couple"], C8.fnScope (st 94), fun _ => true, []⟩
def B__law_table : { w : PW.Env → W Out // EvSs M__law_table S__law_table (C8.fnBody (st 94)) w } := ⟨_,
  (ss_cons (s_asg (v_call 0 (av_cons (v_var 0) (av_cons (v_var 1) av_nil))) (g_tp (gs_cons (g_nm 2) (gs_cons (g_nm 3) gs_nil))))
  (ss_cons (s_set 4 (v_call 1 (av_cons (v_var 0) (av_cons v_int av_nil))))
  (ss_cons (s_if (t_cmp o_lt (v_var 4).toB v_int.toB) (ss_one (s_ret (v_var 2))) ss_nil)
  (ss_cons (s_set 5 (v_if (t_cmp o_eq (v_var 4).toB v_int.toB) v_int v_int))
  (ss_one (s_ret (v_tup (av_cons (v_ix (v_var 2).toB v_int) (av_cons (v_callT c_tuple (ab_cons (f_lc [("couple", 6)] (i_val (v_call 2 (av_cons (v_ix (v_var 2).toB v_int) av_nil))) (g_nm 6) (ts_one (t_cmp o_ne (v_cmp1 o_in (v_var 6) (v_ix (v_var 2).toB v_int).toB).toB (v_cmp o_eq (v_call 1 (av_cons (v_var 0) (av_cons (v_var 5) av_nil))).toB v_int.toB).toB)) (v_var 6)).toV.toB ab_nil)) av_nil)))))))))⟩
def F__law_table : List D → W D := defW 2 7 B__law_table.1
/-! _law_empty -/
def M__law_empty : Mo := ⟨[], 0, free, cons⟩
def S__law_empty : Fix := ⟨["table", "lot", "a", "b"], C8.fnScope (st 83), fun _ => true, []⟩
def B__law_empty : { w : PW.Env → W Out // EvSs M__law_empty S__law_empty (C8.fnBody (st 83)) w } := ⟨_,
  (ss_one (s_ret (v_cmp o_eq (f_lc [("a", 2), ("b", 3)] (i_val (v_ix (v_var 0).toB v_int)) (g_tp (gs_cons (g_nm 2) (gs_cons (g_nm 3) gs_nil))) (ts_one (tw_and (t_cmp1 o_in (v_var 2) (v_var 1).toB) (tw_and1 (t_cmp1 o_in (v_var 3) (v_var 1).toB))).t) v_int).toV.toB (f_lst av_nil).toV.toB)))⟩
def F__law_empty : List D → W D := defW 2 4 B__law_empty.1
/-! _law_others -/
def M__law_others : Mo := ⟨[], 0, free, cons⟩
def S__law_others : Fix := ⟨["table", "lot", "one"], C8.fnScope (st 84), fun _ => true, []⟩
def B__law_others : { w : PW.Env → W Out // EvSs M__law_others S__law_others (C8.fnBody (st 84)) w } := ⟨_,
  (ss_one (s_ret (v_callT c_tuple (ab_cons (f_lc [("one", 2)] (i_range1 (ab_cons (v_ix (v_var 0).toB v_int).toB ab_nil)) (g_nm 2) (ts_one (t_cmp1 o_notin (v_var 2) (v_var 1).toB)) (v_var 2)).toV.toB ab_nil))))⟩
def F__law_others : List D → W D := defW 2 3 B__law_others.1
/-! _law_full -/
def M__law_full : Mo := ⟨[("_law_couples", F__law_couples)], 1, free, cons⟩
def S__law_full : Fix := ⟨["table", "lot", "a", "b"], C8.fnScope (st 82), fun _ => true, []⟩
def B__law_full : { w : PW.Env → W Out // EvSs M__law_full S__law_full (C8.fnBody (st 82)) w } := ⟨_,
  (ss_one (s_ret (v_cmp o_eq (f_lc [("a", 2), ("b", 3)] (i_val (v_call 0 (av_cons (v_ix (v_var 0).toB v_int) av_nil))) (g_tp (gs_cons (g_nm 2) (gs_cons (g_nm 3) gs_nil))) (ts_one (tw_and (t_cmp1 o_in (v_var 2) (v_var 1).toB) (tw_and (t_cmp1 o_in (v_var 3) (v_var 1).toB) (tw_and1 (t_cmp1 o_notin (v_tup (av_cons (v_var 2) (av_cons (v_var 3) av_nil))) (v_ix (v_var 0).toB v_int).toB)))).t) v_int).toV.toB (f_lst av_nil).toV.toB)))⟩
def F__law_full : List D → W D := defW 2 4 B__law_full.1
/-! _law_parts -/
def M__law_parts : Mo := ⟨[("_law_empty", F__law_empty), ("_law_others", F__law_others), ("_law_full", F__law_full)], 2, free, cons⟩
def S__law_parts : Fix := ⟨["table", "lot"], C8.fnScope (st 85), fun _ => true, []⟩
def B__law_parts : { w : PW.Env → W Out // EvSs M__law_parts S__law_parts (C8.fnBody (st 85)) w } := ⟨_,
  (ss_one (s_ret (v_and (v_call 2 (av_cons (v_var 0) (av_cons (v_var 1) av_nil))) (v_one (v_call 0 (av_cons (v_var 0) (av_cons (v_call 1 (av_cons (v_var 0) (av_cons (v_var 1) av_nil))) av_nil)))))))⟩
def F__law_parts : List D → W D := defW 2 2 B__law_parts.1
/-! _law_partings -/
def M__law_partings : Mo := ⟨[("_law_lots", F__law_lots), ("_law_parts", F__law_parts)], 3, free, cons⟩
def S__law_partings : Fix := ⟨["table", "lot"], C8.fnScope (st 86), fun _ => true, []⟩
def B__law_partings : { w : PW.Env → W Out // EvSs M__law_partings S__law_partings (C8.fnBody (st 86)) w } := ⟨_,
  (ss_one (s_ret (f_lc [("lot", 1)] (i_val (v_call 0 (av_cons (v_ix (v_var 0).toB v_int) av_nil))) (g_nm 1) (ts_one (t_val (v_call 1 (av_cons (v_var 0) (av_cons (v_var 1) av_nil))).toB)) (v_var 1)).toV))⟩
def F__law_partings : List D → W D := defW 1 2 B__law_partings.1
/-! _law_know -/
def M__law_know : Mo := ⟨[], 0, free, cons⟩
def S__law_know : Fix := ⟨["table", "a", "b"], C8.fnScope (st 79), fun _ => true, []⟩
def B__law_know : { w : PW.Env → W Out // EvSs M__law_know S__law_know (C8.fnBody (st 79)) w } := ⟨_,
  (ss_one (s_ret (v_cmp1 o_in (v_tup (av_cons (v_callB c_min (ab_cons (v_var 1).toB (ab_cons (v_var 2).toB ab_nil))) (av_cons (v_callB c_max (ab_cons (v_var 1).toB (ab_cons (v_var 2).toB ab_nil))) av_nil))) (v_ix (v_var 0).toB v_int).toB)))⟩
def F__law_know : List D → W D := defW 3 3 B__law_know.1
/-! _law_rings -/
def M__law_rings : Mo := ⟨[("_law_know", F__law_know)], 1, free, cons⟩
def S__law_rings : Fix := ⟨["table", "many", "found", "step", "longer", "row", "good", "inside", "one", "a", "b"], C8.fnScope (st 89), fun _ => true, [4]⟩
def B__law_rings : { w : PW.Env → W Out // EvSs M__law_rings S__law_rings (C8.fnBody (st 89)) w } := ⟨_,
  (ss_cons (s_setLc 2 [("one", 8)] (i_range1 (ab_cons (v_ix (v_var 0).toB v_int).toB ab_nil)) (g_nm 8) ts_nil (v_tup (av_cons (v_var 8) av_nil)))
  (ss_cons (s_for (i_range1 (ab_cons (v_bin o_sub (v_var 1).toB v_int.toB).toB ab_nil)) (g_nm 3) (ss_cons (s_setF 4 (f_lst av_nil))
  (ss_cons (s_for (i_val (v_var 2)) (g_nm 5) (ss_one (s_extend 4 (f_lc [("one", 8)] (i_range2 (ab_cons (v_bin o_add (v_ix (v_var 5).toB v_int).toB v_int.toB).toB (ab_cons (v_ix (v_var 0).toB v_int).toB ab_nil))) (g_nm 8) (ts_one (tw_and (t_cmp1 o_notin (v_var 8) (v_var 5).toB) (tw_and1 (t_val (v_call 0 (av_cons (v_var 0) (av_cons (v_ix (v_var 5).toB (v_neg v_int.toB)) (av_cons (v_var 8) av_nil)))).toB))).t) (v_bin o_add (v_var 5).toB (v_tup (av_cons (v_var 8) av_nil)).toB)).toV.toB)))
  (ss_one (s_move 2 4)))))
  (ss_cons (s_set 6 (f_lst av_nil).toV)
  (ss_cons (s_for (i_val (v_var 2)) (g_nm 5) (ss_cons (s_set 7 (v_callB c_len (ab_cons (f_lc [("a", 9), ("b", 10)] (i_val (v_ix (v_var 0).toB v_int)) (g_tp (gs_cons (g_nm 9) (gs_cons (g_nm 10) gs_nil))) (ts_one (tw_and (t_cmp1 o_in (v_var 9) (v_var 5).toB) (tw_and1 (t_cmp1 o_in (v_var 10) (v_var 5).toB))).t) v_int).toV.toB ab_nil)))
  (ss_one (s_set 6 (v_bin o_add (v_var 6).toB (v_bin o_mul (f_lst (av_cons (v_var 5) av_nil)).toV.toB (v_callT c_int (ab_cons (v_and (v_call 0 (av_cons (v_var 0) (av_cons (v_ix (v_var 5).toB v_int) (av_cons (v_ix (v_var 5).toB (v_neg v_int.toB)) av_nil)))) (v_and (v_cmp o_eq (v_var 7).toB (v_var 1).toB) (v_one (v_cmp o_lt (v_ix (v_var 5).toB v_int).toB (v_ix (v_var 5).toB (v_neg v_int.toB)).toB)))).toB ab_nil)).toB).toB)))))
  (ss_one (s_ret (f_callB c_sorted (ab_cons (v_var 6).toB ab_nil)).toV))))))⟩
def F__law_rings : List D → W D := defW 2 11 B__law_rings.1
/-! _law_far -/
def M__law_far : Mo := ⟨[("_law_know", F__law_know)], 1, free, cons⟩
def S__law_far : Fix := ⟨["table", "found", "a", "b", "c", "d", "apart", "x", "y"], C8.fnScope (st 90), fun _ => true, []⟩
def B__law_far : { w : PW.Env → W Out // EvSs M__law_far S__law_far (C8.fnBody (st 90)) w } := ⟨_,
  (ss_cons (s_set 1 (f_lst av_nil).toV)
  (ss_cons (s_for (i_val (v_ix (v_var 0).toB v_int)) (g_tp (gs_cons (g_nm 2) (gs_cons (g_nm 3) gs_nil))) (ss_one (s_for (i_val (v_ix (v_var 0).toB v_int)) (g_tp (gs_cons (g_nm 4) (gs_cons (g_nm 5) gs_nil))) (ss_cons (s_set 6 (v_and (v_cmp o_eq (v_lenset (f_lst (av_cons (v_var 2) (av_cons (v_var 3) (av_cons (v_var 4) (av_cons (v_var 5) av_nil))))).toV.toB).toB v_int.toB) (v_one (v_cmp o_eq (f_lc [("x", 7), ("y", 8)] (i_val (v_tup (av_cons (v_tup (av_cons (v_var 2) (av_cons (v_var 4) av_nil))) (av_cons (v_tup (av_cons (v_var 2) (av_cons (v_var 5) av_nil))) (av_cons (v_tup (av_cons (v_var 3) (av_cons (v_var 4) av_nil))) (av_cons (v_tup (av_cons (v_var 3) (av_cons (v_var 5) av_nil))) av_nil)))))) (g_tp (gs_cons (g_nm 7) (gs_cons (g_nm 8) gs_nil))) (ts_one (t_val (v_call 0 (av_cons (v_var 0) (av_cons (v_var 7) (av_cons (v_var 8) av_nil)))).toB)) v_int).toV.toB (f_lst av_nil).toV.toB))))
  (ss_one (s_set 1 (v_bin o_add (v_var 1).toB (v_bin o_mul (f_lst (av_cons (v_tup (av_cons (v_var 2) (av_cons (v_var 3) (av_cons (v_var 4) (av_cons (v_var 5) av_nil))))) av_nil)).toV.toB (v_callT c_int (ab_cons (v_and (v_var 6) (v_one (v_cmp o_lt (v_var 2).toB (v_var 4).toB))).toB ab_nil)).toB).toB)))))))
  (ss_one (s_ret (f_callB c_sorted (ab_cons (v_var 1).toB ab_nil)).toV))))⟩
def F__law_far : List D → W D := defW 1 9 B__law_far.1
/-! _law_bars -/
def M__law_bars : Mo := ⟨[("_law_rings", F__law_rings), ("_law_far", F__law_far)], 2, free, cons⟩
def S__law_bars : Fix := ⟨["table", "found", "row"], C8.fnScope (st 91), fun _ => true, []⟩
def B__law_bars : { w : PW.Env → W Out // EvSs M__law_bars S__law_bars (C8.fnBody (st 91)) w } := ⟨_,
  (ss_cons (s_setLc 1 [("row", 2)] (i_val (v_call 0 (av_cons (v_var 0) (av_cons v_int av_nil)))) (g_nm 2) ts_nil (v_tup (av_cons v_str (av_cons (v_var 2) av_nil))))
  (ss_one (s_ret (v_bin o_add (v_bin o_add (v_var 1).toB (f_lc [("row", 2)] (i_val (v_call 1 (av_cons (v_var 0) av_nil))) (g_nm 2) ts_nil (v_tup (av_cons v_str (av_cons (v_var 2) av_nil)))).toV.toB).toB (f_lc [("row", 2)] (i_val (v_call 0 (av_cons (v_var 0) (av_cons v_int av_nil)))) (g_nm 2) ts_nil (v_tup (av_cons v_str (av_cons (v_var 2) av_nil)))).toV.toB))))⟩
def F__law_bars : List D → W D := defW 1 3 B__law_bars.1
/-! people -/
def M_people : Mo := ⟨[], 0, free, cons⟩
def S_people : Fix := ⟨["table"], C8.fnScope (st 15), fun _ => true, []⟩
def B_people : { w : PW.Env → W Out // EvSs M_people S_people (C8.fnBody (st 15)) w } := ⟨_,
  (ss_one (s_ret (v_ix (v_var 0).toB v_int)))⟩
def F_people : List D → W D := defW 1 1 B_people.1
/-! is_integer -/
def M_is_integer : Mo := ⟨[], 0, free, cons⟩
def S_is_integer : Fix := ⟨["thing"], C8.fnScope (st 7), fun _ => true, []⟩
def B_is_integer : { w : PW.Env → W Out // EvSs M_is_integer S_is_integer (C8.fnBody (st 7)) w } := ⟨_,
  (ss_one (s_ret (v_and (v_callB c_isi (ab_cons (v_var 0).toB (ab_cons (PW.v_ty (T := "int")).toB ab_nil))) (v_one (v_not (v_callB c_isi (ab_cons (v_var 0).toB (ab_cons (PW.v_ty (T := "bool")).toB ab_nil))).toB)))))⟩
def F_is_integer : List D → W D := defW 1 1 B_is_integer.1
/-! is_within -/
def M_is_within : Mo := ⟨[("is_integer", F_is_integer)], 1, free, cons⟩
def S_is_within : Fix := ⟨["thing", "least", "most"], C8.fnScope (st 8), fun _ => true, []⟩
def B_is_within : { w : PW.Env → W Out // EvSs M_is_within S_is_within (C8.fnBody (st 8)) w } := ⟨_,
  (ss_one (s_ret (v_and (v_call 0 (av_cons (v_var 0) av_nil)) (v_one (v_chain o_le o_le (v_var 1).toB (v_var 0).toB (v_var 2).toB)))))⟩
def F_is_within : List D → W D := defW 3 3 B_is_within.1
/-! need_people -/
def M_need_people : Mo := ⟨[("is_within", F_is_within)], 2, free, cons⟩
def S_need_people : Fix := ⟨["table", "some", "one"], C8.fnScope (st 16), fun _ => true, []⟩
def B_need_people : { w : PW.Env → W Out // EvSs M_need_people S_need_people (C8.fnBody (st 16)) w } := ⟨_,
  (ss_one (s_for (i_val (v_var 1)) (g_nm 2) (ss_one (s_if (t_not (t_val (v_call 0 (av_cons (v_var 2) (av_cons v_int (av_cons (v_bin o_sub (v_ix (v_var 0).toB v_int).toB v_int.toB) av_nil)))).toB)) (ss_one s_never) ss_nil))))⟩
def F_need_people : List D → W D := defVW 5 3 B_need_people.1
/-! is_known -/
def M_is_known : Mo := ⟨[], 0, free, cons⟩
def S_is_known : Fix := ⟨["table", "a", "b"], C8.fnScope (st 17), fun _ => true, []⟩
def B_is_known : { w : PW.Env → W Out // EvSs M_is_known S_is_known (C8.fnBody (st 17)) w } := ⟨_,
  (ss_one (s_ret (v_cmp1 o_in (v_tup (av_cons (v_callB c_min (ab_cons (v_var 1).toB (ab_cons (v_var 2).toB ab_nil))) (av_cons (v_callB c_max (ab_cons (v_var 1).toB (ab_cons (v_var 2).toB ab_nil))) av_nil))) (v_ix (v_var 0).toB v_int).toB)))⟩
def F_is_known : List D → W D := defW 3 3 B_is_known.1
/-! known_by -/
def M_known_by : Mo := ⟨[("need_people", F_need_people), ("is_known", F_is_known)], 3, free, cons⟩
def S_known_by : Fix := ⟨["table", "one", "other"], C8.fnScope (st 18), fun _ => true, []⟩
def B_known_by : { w : PW.Env → W Out // EvSs M_known_by S_known_by (C8.fnBody (st 18)) w } := ⟨_,
  (ss_cons (s_expr (v_call 0 (av_cons (v_var 0) (av_cons (v_var 1) av_nil))))
  (ss_one (s_ret (v_callT c_tuple (ab_cons (f_lc [("other", 2)] (i_range1 (ab_cons (v_ix (v_var 0).toB v_int).toB ab_nil)) (g_nm 2) (ts_one (t_val (v_call 1 (av_cons (v_var 0) (av_cons (v_var 1) (av_cons (v_var 2) av_nil)))).toB)) (v_var 2)).toV.toB ab_nil)))))⟩
def F_known_by : List D → W D := defW 2 3 B_known_by.1
/-! counts -/
def M_counts : Mo := ⟨[("people", F_people), ("known_by", F_known_by)], 4, free, cons⟩
def S_counts : Fix := ⟨["table", "one"], C8.fnScope (st 38), fun _ => true, []⟩
def B_counts : { w : PW.Env → W Out // EvSs M_counts S_counts (C8.fnBody (st 38)) w } := ⟨_,
  (ss_one (s_ret (v_callT c_tuple (ab_cons (f_lc [("one", 1)] (i_range1 (ab_cons (v_call 0 (av_cons (v_var 0) av_nil)).toB ab_nil)) (g_nm 1) ts_nil (v_callB c_len (ab_cons (v_call 1 (av_cons (v_var 0) (av_cons (v_var 1) av_nil))).toB ab_nil))).toV.toB ab_nil))))⟩
def F_counts : List D → W D := defW 1 2 B_counts.1
/-! order_of -/
def M_order_of : Mo := ⟨[("counts", F_counts)], 5, free, cons⟩
def S_order_of : Fix := ⟨["table", "told", "minus", "one", "many"], C8.fnScope (st 54), fun _ => true, []⟩
def B_order_of : { w : PW.Env → W Out // EvSs M_order_of S_order_of (C8.fnBody (st 54)) w } := ⟨_,
  (ss_cons (s_set 1 (v_call 0 (av_cons (v_var 0) av_nil)))
  (ss_one (s_ret (v_callT c_tuple (ab_cons (f_lc [("minus", 2), ("one", 3)] (i_val (f_callB c_sorted (ab_cons (f_lc [("one", 3), ("many", 4)] (i_enum (av_cons (v_var 1) av_nil)) (g_tp (gs_cons (g_nm 3) (gs_cons (g_nm 4) gs_nil))) ts_nil (v_tup (av_cons (v_bin o_sub v_int.toB (v_var 4).toB) (av_cons (v_var 3) av_nil)))).toV.toB ab_nil)).toV) (g_tp (gs_cons (g_nm 2) (gs_cons (g_nm 3) gs_nil))) ts_nil (v_var 3)).toV.toB ab_nil)))))⟩
def F_order_of : List D → W D := defW 1 5 B_order_of.1
/-! first_ones -/
def M_first_ones : Mo := ⟨[("order_of", F_order_of)], 6, free, cons⟩
def S_first_ones : Fix := ⟨["table", "first"], C8.fnScope (st 55), fun _ => true, []⟩
def B_first_ones : { w : PW.Env → W Out // EvSs M_first_ones S_first_ones (C8.fnBody (st 55)) w } := ⟨_,
  (ss_one (s_ret (v_callT c_tuple (ab_cons (f_callB c_sorted (ab_cons (v_slice (v_call 0 (av_cons (v_var 0) av_nil)).toB p_none (p_some (v_var 1))).toB ab_nil)).toV.toB ab_nil))))⟩
def F_first_ones : List D → W D := defW 2 2 B_first_ones.1
/-! head_of -/
def M_head_of : Mo := ⟨[], 0, free, cons⟩
def S_head_of : Fix := ⟨["some", "place", "many"], C8.fnScope (st 41), fun _ => true, []⟩
def B_head_of : { w : PW.Env → W Out // EvSs M_head_of S_head_of (C8.fnBody (st 41)) w } := ⟨_,
  (ss_one (s_ret (v_callB c_len (ab_cons (f_lc [("place", 1), ("many", 2)] (i_enum (av_cons (v_var 0) av_nil)) (g_tp (gs_cons (g_nm 1) (gs_cons (g_nm 2) gs_nil))) (ts_one (t_cmp o_ge (v_var 2).toB (v_var 1).toB)) v_int).toV.toB ab_nil))))⟩
def F_head_of : List D → W D := defW 1 3 B_head_of.1
/-! sorted_list -/
def M_sorted_list : Mo := ⟨[], 0, free, cons⟩
def S_sorted_list : Fix := ⟨["some"], C8.fnScope (st 39), fun _ => true, []⟩
def B_sorted_list : { w : PW.Env → W Out // EvSs M_sorted_list S_sorted_list (C8.fnBody (st 39)) w } := ⟨_,
  (ss_one (s_ret (v_callT c_tuple (ab_cons (v_rev (f_callB c_sorted (ab_cons (v_var 0).toB ab_nil)).toV.toB).toB ab_nil))))⟩
def F_sorted_list : List D → W D := defW 1 1 B_sorted_list.1
/-! list_of -/
def M_list_of : Mo := ⟨[("sorted_list", F_sorted_list), ("counts", F_counts)], 5, free, cons⟩
def S_list_of : Fix := ⟨["table"], C8.fnScope (st 40), fun _ => true, []⟩
def B_list_of : { w : PW.Env → W Out // EvSs M_list_of S_list_of (C8.fnBody (st 40)) w } := ⟨_,
  (ss_one (s_ret (v_call 0 (av_cons (v_call 1 (av_cons (v_var 0) av_nil)) av_nil))))⟩
def F_list_of : List D → W D := defW 1 1 B_list_of.1
/-! head -/
def M_head : Mo := ⟨[("head_of", F_head_of), ("list_of", F_list_of)], 6, free, cons⟩
def S_head : Fix := ⟨["table"], C8.fnScope (st 43), fun _ => true, []⟩
def B_head : { w : PW.Env → W Out // EvSs M_head S_head (C8.fnBody (st 43)) w } := ⟨_,
  (ss_one (s_ret (v_call 0 (av_cons (v_call 1 (av_cons (v_var 0) av_nil)) av_nil))))⟩
def F_head : List D → W D := defW 1 1 B_head.1
/-! by_counts -/
def M_by_counts : Mo := ⟨[("first_ones", F_first_ones), ("head", F_head)], 7, free, cons⟩
def S_by_counts : Fix := ⟨["table"], C8.fnScope (st 56), fun _ => true, []⟩
def B_by_counts : { w : PW.Env → W Out // EvSs M_by_counts S_by_counts (C8.fnBody (st 56)) w } := ⟨_,
  (ss_one (s_ret (v_call 0 (av_cons (v_var 0) (av_cons (v_call 1 (av_cons (v_var 0) av_nil)) av_nil)))))⟩
def F_by_counts : List D → W D := defW 1 1 B_by_counts.1
/-! is_empty -/
def M_is_empty : Mo := ⟨[("is_known", F_is_known)], 1, free, cons⟩
def S_is_empty : Fix := ⟨["table", "lot", "a", "b"], C8.fnScope (st 28), fun _ => true, []⟩
def B_is_empty : { w : PW.Env → W Out // EvSs M_is_empty S_is_empty (C8.fnBody (st 28)) w } := ⟨_,
  (ss_one (s_ret (v_not (v_callB c_any (ab_cons (f_lc2 [("a", 2), ("b", 3)] [3] (i_val (v_var 1)) (g_nm 2) ts_nil (i_val (v_var 1)) (g_nm 3) (ts_one (t_cmp o_ne (v_var 2).toB (v_var 3).toB)) (v_call 0 (av_cons (v_var 0) (av_cons (v_var 2) (av_cons (v_var 3) av_nil))))).toV.toB ab_nil)).toB)))⟩
def F_is_empty : List D → W D := defW 2 4 B_is_empty.1
/-! others -/
def M_others : Mo := ⟨[("people", F_people)], 1, free, cons⟩
def S_others : Fix := ⟨["table", "lot", "one"], C8.fnScope (st 48), fun _ => true, []⟩
def B_others : { w : PW.Env → W Out // EvSs M_others S_others (C8.fnBody (st 48)) w } := ⟨_,
  (ss_one (s_ret (v_callT c_tuple (ab_cons (f_lc [("one", 2)] (i_range1 (ab_cons (v_call 0 (av_cons (v_var 0) av_nil)).toB ab_nil)) (g_nm 2) (ts_one (t_cmp1 o_notin (v_var 2) (v_var 1).toB)) (v_var 2)).toV.toB ab_nil))))⟩
def F_others : List D → W D := defW 2 3 B_others.1
/-! is_full -/
def M_is_full : Mo := ⟨[("is_known", F_is_known)], 1, free, cons⟩
def S_is_full : Fix := ⟨["table", "lot", "a", "b"], C8.fnScope (st 27), fun _ => true, []⟩
def B_is_full : { w : PW.Env → W Out // EvSs M_is_full S_is_full (C8.fnBody (st 27)) w } := ⟨_,
  (ss_one (s_ret (v_callB c_all (ab_cons (f_lc2 [("a", 2), ("b", 3)] [3] (i_val (v_var 1)) (g_nm 2) ts_nil (i_val (v_var 1)) (g_nm 3) (ts_one (t_cmp o_ne (v_var 2).toB (v_var 3).toB)) (v_call 0 (av_cons (v_var 0) (av_cons (v_var 2) (av_cons (v_var 3) av_nil))))).toV.toB ab_nil))))⟩
def F_is_full : List D → W D := defW 2 4 B_is_full.1
/-! does_part -/
def M_does_part : Mo := ⟨[("is_empty", F_is_empty), ("others", F_others), ("is_full", F_is_full)], 2, free, cons⟩
def S_does_part : Fix := ⟨["table", "lot"], C8.fnScope (st 49), fun _ => true, []⟩
def B_does_part : { w : PW.Env → W Out // EvSs M_does_part S_does_part (C8.fnBody (st 49)) w } := ⟨_,
  (ss_one (s_ret (v_and (v_call 2 (av_cons (v_var 0) (av_cons (v_var 1) av_nil))) (v_one (v_call 0 (av_cons (v_var 0) (av_cons (v_call 1 (av_cons (v_var 0) (av_cons (v_var 1) av_nil))) av_nil)))))))⟩
def F_does_part : List D → W D := defW 2 2 B_does_part.1
/-! a_parting -/
def M_a_parting : Mo := ⟨[("by_counts", F_by_counts), ("does_part", F_does_part)], 8, free, cons⟩
def S_a_parting : Fix := ⟨["table", "lot"], C8.fnScope (st 57), fun _ => true, []⟩
def B_a_parting : { w : PW.Env → W Out // EvSs M_a_parting S_a_parting (C8.fnBody (st 57)) w } := ⟨_,
  (ss_cons (s_set 1 (v_call 0 (av_cons (v_var 0) av_nil)))
  (ss_one (s_ret (v_if (t_val (v_call 1 (av_cons (v_var 0) (av_cons (v_var 1) av_nil))).toB) (v_var 1) v_non))))⟩
def F_a_parting : List D → W D := defW 1 2 B_a_parting.1
/-! all_lots -/
def M_all_lots : Mo := ⟨[("people", F_people)], 1, free, cons⟩
def S_all_lots : Fix := ⟨["table", "found", "one", "lot", "many"], C8.fnScope (st 47), fun _ => true, []⟩
def B_all_lots : { w : PW.Env → W Out // EvSs M_all_lots S_all_lots (C8.fnBody (st 47)) w } := ⟨_,
  (ss_cons (s_set 1 (f_lst (av_cons (v_tup av_nil) av_nil)).toV)
  (ss_cons (s_for (i_range1 (ab_cons (v_call 0 (av_cons (v_var 0) av_nil)).toB ab_nil)) (g_nm 2) (ss_one (s_set 1 (v_bin o_add (v_var 1).toB (f_lc [("lot", 3)] (i_val (v_var 1)) (g_nm 3) ts_nil (v_tup (av_star (v_var 3).toB (av_cons (v_var 2) av_nil)))).toV.toB))))
  (ss_one (s_ret (f_lc [("many", 4), ("lot", 3)] (i_val (f_callB c_sorted (ab_cons (f_lc [("lot", 3)] (i_val (v_var 1)) (g_nm 3) ts_nil (v_tup (av_cons (v_callB c_len (ab_cons (v_var 3).toB ab_nil)) (av_cons (v_var 3) av_nil)))).toV.toB ab_nil)).toV) (g_tp (gs_cons (g_nm 4) (gs_cons (g_nm 3) gs_nil))) ts_nil (v_var 3)).toV))))⟩
def F_all_lots : List D → W D := defW 1 5 B_all_lots.1
/-! partings -/
def M_partings : Mo := ⟨[("all_lots", F_all_lots), ("does_part", F_does_part)], 3, free, cons⟩
def S_partings : Fix := ⟨["table", "lot"], C8.fnScope (st 51), fun _ => true, []⟩
def B_partings : { w : PW.Env → W Out // EvSs M_partings S_partings (C8.fnBody (st 51)) w } := ⟨_,
  (ss_one (s_ret (v_callT c_tuple (ab_cons (f_callB c_sorted (ab_cons (f_lc [("lot", 1)] (i_val (v_call 0 (av_cons (v_var 0) av_nil))) (g_nm 1) (ts_one (t_val (v_call 1 (av_cons (v_var 0) (av_cons (v_var 1) av_nil))).toB)) (v_var 1)).toV.toB ab_nil)).toV.toB ab_nil))))⟩
def F_partings : List D → W D := defW 1 2 B_partings.1
/-! partings_many -/
def M_partings_many : Mo := ⟨[("partings", F_partings)], 4, free, cons⟩
def S_partings_many : Fix := ⟨["table"], C8.fnScope (st 52), fun _ => true, []⟩
def B_partings_many : { w : PW.Env → W Out // EvSs M_partings_many S_partings_many (C8.fnBody (st 52)) w } := ⟨_,
  (ss_one (s_ret (v_callB c_len (ab_cons (v_call 0 (av_cons (v_var 0) av_nil)).toB ab_nil))))⟩
def F_partings_many : List D → W D := defW 1 1 B_partings_many.1
/-! lack_of -/
def M_lack_of : Mo := ⟨[("head_of", F_head_of)], 1, free, cons⟩
def S_lack_of : Fix := ⟨["some", "first"], C8.fnScope (st 42), fun _ => true, []⟩
def B_lack_of : { w : PW.Env → W Out // EvSs M_lack_of S_lack_of (C8.fnBody (st 42)) w } := ⟨_,
  (ss_cons (s_set 1 (v_call 0 (av_cons (v_var 0) av_nil)))
  (ss_one (s_ret (v_bin o_sub (v_bin o_add (v_bin o_mul (v_var 1).toB (v_bin o_sub (v_var 1).toB v_int.toB).toB).toB (v_callB c_sum (ab_cons (v_slice (v_var 0).toB (p_some (v_var 1)) p_none).toB ab_nil)).toB).toB (v_callB c_sum (ab_cons (v_slice (v_var 0).toB p_none (p_some (v_var 1))).toB ab_nil)).toB))))⟩
def F_lack_of : List D → W D := defW 1 2 B_lack_of.1
/-! lack -/
def M_lack : Mo := ⟨[("lack_of", F_lack_of), ("list_of", F_list_of)], 6, free, cons⟩
def S_lack : Fix := ⟨["table"], C8.fnScope (st 44), fun _ => true, []⟩
def B_lack : { w : PW.Env → W Out // EvSs M_lack S_lack (C8.fnBody (st 44)) w } := ⟨_,
  (ss_one (s_ret (v_call 0 (av_cons (v_call 1 (av_cons (v_var 0) av_nil)) av_nil))))⟩
def F_lack : List D → W D := defW 1 1 B_lack.1
/-! all_couples -/
def M_all_couples : Mo := ⟨[], 0, free, cons⟩
def S_all_couples : Fix := ⟨["many", "a", "b"], C8.fnScope (st 19), fun _ => true, []⟩
def B_all_couples : { w : PW.Env → W Out // EvSs M_all_couples S_all_couples (C8.fnBody (st 19)) w } := ⟨_,
  (ss_one (s_ret (f_lc2 [("a", 1), ("b", 2)] [2] (i_range1 (ab_cons (v_var 0).toB ab_nil)) (g_nm 1) ts_nil (i_range2 (ab_cons (v_bin o_add (v_var 1).toB v_int.toB).toB (ab_cons (v_var 0).toB ab_nil))) (g_nm 2) ts_nil (v_tup (av_cons (v_var 1) (av_cons (v_var 2) av_nil)))).toV))⟩
def F_all_couples : List D → W D := defW 1 3 B_all_couples.1
/-! need_two -/
def M_need_two : Mo := ⟨[("need_people", F_need_people)], 3, free, cons⟩
def S_need_two : Fix := ⟨["table", "a", "b"], C8.fnScope (st 22), fun _ => true, []⟩
def B_need_two : { w : PW.Env → W Out // EvSs M_need_two S_need_two (C8.fnBody (st 22)) w } := ⟨_,
  (ss_cons (s_expr (v_call 0 (av_cons (v_var 0) (av_cons (v_var 1) (av_cons (v_var 2) av_nil)))))
  (ss_one (s_if (t_cmp o_eq (v_var 1).toB (v_var 2).toB) (ss_one s_never) ss_nil)))⟩
def F_need_two : List D → W D := defW 3 3 B_need_two.1
/-! without_couple -/
def M_without_couple : Mo := ⟨[("need_two", F_need_two), ("is_known", F_is_known)], 4, free, cons⟩
def S_without_couple : Fix := ⟨["table", "a", "b", "couple"], C8.fnScope (st 24), fun _ => true, []⟩
def B_without_couple : { w : PW.Env → W Out // EvSs M_without_couple S_without_couple (C8.fnBody (st 24)) w } := ⟨_,
  (ss_cons (s_expr (v_call 0 (av_cons (v_var 0) (av_cons (v_var 1) (av_cons (v_var 2) av_nil)))))
  (ss_cons (s_if (t_not (t_val (v_call 1 (av_cons (v_var 0) (av_cons (v_var 1) (av_cons (v_var 2) av_nil)))).toB)) (ss_one s_never) ss_nil)
  (ss_one (s_ret (v_tup (av_cons (v_ix (v_var 0).toB v_int) (av_cons (v_callT c_tuple (ab_cons (f_lc [("couple", 3)] (i_val (v_ix (v_var 0).toB v_int)) (g_nm 3) (ts_one (t_cmp o_ne (v_var 3).toB (v_tup (av_cons (v_callB c_min (ab_cons (v_var 1).toB (ab_cons (v_var 2).toB ab_nil))) (av_cons (v_callB c_max (ab_cons (v_var 1).toB (ab_cons (v_var 2).toB ab_nil))) av_nil))).toB)) (v_var 3)).toV.toB ab_nil)) av_nil)))))))⟩
def F_without_couple : List D → W D := defW 3 4 B_without_couple.1
/-! with_couple -/
def M_with_couple : Mo := ⟨[("need_two", F_need_two), ("is_known", F_is_known)], 4, free, cons⟩
def S_with_couple : Fix := ⟨["table", "a", "b"], C8.fnScope (st 23), fun _ => true, []⟩
def B_with_couple : { w : PW.Env → W Out // EvSs M_with_couple S_with_couple (C8.fnBody (st 23)) w } := ⟨_,
  (ss_cons (s_expr (v_call 0 (av_cons (v_var 0) (av_cons (v_var 1) (av_cons (v_var 2) av_nil)))))
  (ss_cons (s_if (t_val (v_call 1 (av_cons (v_var 0) (av_cons (v_var 1) (av_cons (v_var 2) av_nil)))).toB) (ss_one s_never) ss_nil)
  (ss_one (s_ret (v_tup (av_cons (v_ix (v_var 0).toB v_int) (av_cons (v_callT c_tuple (ab_cons (f_callB c_sorted (ab_cons (f_lst (av_star (v_ix (v_var 0).toB v_int).toB (av_cons (v_tup (av_cons (v_callB c_min (ab_cons (v_var 1).toB (ab_cons (v_var 2).toB ab_nil))) (av_cons (v_callB c_max (ab_cons (v_var 1).toB (ab_cons (v_var 2).toB ab_nil))) av_nil))) av_nil))).toV.toB ab_nil)).toV.toB ab_nil)) av_nil)))))))⟩
def F_with_couple : List D → W D := defW 3 3 B_with_couple.1
/-! told_otherwise -/
def M_told_otherwise : Mo := ⟨[("is_known", F_is_known), ("without_couple", F_without_couple), ("with_couple", F_with_couple)], 5, free, cons⟩
def S_told_otherwise : Fix := ⟨["table", "a", "b"], C8.fnScope (st 68), fun _ => true, []⟩
def B_told_otherwise : { w : PW.Env → W Out // EvSs M_told_otherwise S_told_otherwise (C8.fnBody (st 68)) w } := ⟨_,
  (ss_one (s_ret (v_if (t_val (v_call 0 (av_cons (v_var 0) (av_cons (v_var 1) (av_cons (v_var 2) av_nil)))).toB) (v_call 1 (av_cons (v_var 0) (av_cons (v_var 1) (av_cons (v_var 2) av_nil)))) (v_call 2 (av_cons (v_var 0) (av_cons (v_var 1) (av_cons (v_var 2) av_nil)))))))⟩
def F_told_otherwise : List D → W D := defW 3 3 B_told_otherwise.1
/-! lack_by -/
def M_lack_by : Mo := ⟨[("lack", F_lack), ("told_otherwise", F_told_otherwise)], 7, free, cons⟩
def S_lack_by : Fix := ⟨["table", "a", "b"], C8.fnScope (st 69), fun _ => true, []⟩
def B_lack_by : { w : PW.Env → W Out // EvSs M_lack_by S_lack_by (C8.fnBody (st 69)) w } := ⟨_,
  (ss_one (s_ret (v_call 0 (av_cons (v_call 1 (av_cons (v_var 0) (av_cons (v_var 1) (av_cons (v_var 2) av_nil)))) av_nil))))⟩
def F_lack_by : List D → W D := defW 3 3 B_lack_by.1
/-! better -/
def M_better : Mo := ⟨[("all_couples", F_all_couples), ("people", F_people), ("lack_by", F_lack_by), ("lack", F_lack)], 8, free, cons⟩
def S_better : Fix := ⟨["table", "a", "b"], C8.fnScope (st 71), fun _ => true, []⟩
def B_better : { w : PW.Env → W Out // EvSs M_better S_better (C8.fnBody (st 71)) w } := ⟨_,
  (ss_one (s_ret (v_callT c_tuple (ab_cons (f_lc [("a", 1), ("b", 2)] (i_val (v_call 0 (av_cons (v_call 1 (av_cons (v_var 0) av_nil)) av_nil))) (g_tp (gs_cons (g_nm 1) (gs_cons (g_nm 2) gs_nil))) (ts_one (t_cmp o_lt (v_call 2 (av_cons (v_var 0) (av_cons (v_var 1) (av_cons (v_var 2) av_nil)))).toB (v_call 3 (av_cons (v_var 0) av_nil)).toB)) (v_tup (av_cons (v_var 1) (av_cons (v_var 2) av_nil)))).toV.toB ab_nil))))⟩
def F_better : List D → W D := defW 1 3 B_better.1
/-! half_lack -/
def M_half_lack : Mo := ⟨[("lack", F_lack)], 7, free, cons⟩
def S_half_lack : Fix := ⟨["table"], C8.fnScope (st 45), fun _ => true, []⟩
def B_half_lack : { w : PW.Env → W Out // EvSs M_half_lack S_half_lack (C8.fnBody (st 45)) w } := ⟨_,
  (ss_one (s_ret (v_bin o_fdiv (v_call 0 (av_cons (v_var 0) av_nil)).toB v_int.toB)))⟩
def F_half_lack : List D → W D := defW 1 1 B_half_lack.1
/-! fewest_wrong -/
def M_fewest_wrong : Mo := ⟨[("half_lack", F_half_lack)], 8, free, cons⟩
def S_fewest_wrong : Fix := ⟨["table"], C8.fnScope (st 73), fun _ => true, []⟩
def B_fewest_wrong : { w : PW.Env → W Out // EvSs M_fewest_wrong S_fewest_wrong (C8.fnBody (st 73)) w } := ⟨_,
  (ss_one (s_ret (v_call 0 (av_cons (v_var 0) av_nil))))⟩
def F_fewest_wrong : List D → W D := defW 1 1 B_fewest_wrong.1
/-! strangers -/
def M_strangers : Mo := ⟨[("all_couples", F_all_couples)], 1, free, cons⟩
def S_strangers : Fix := ⟨["table", "couple"], C8.fnScope (st 20), fun _ => true, []⟩
def B_strangers : { w : PW.Env → W Out // EvSs M_strangers S_strangers (C8.fnBody (st 20)) w } := ⟨_,
  (ss_one (s_ret (v_callT c_tuple (ab_cons (f_lc [("couple", 1)] (i_val (v_call 0 (av_cons (v_ix (v_var 0).toB v_int) av_nil))) (g_nm 1) (ts_one (t_cmp1 o_notin (v_var 1) (v_ix (v_var 0).toB v_int).toB)) (v_var 1)).toV.toB ab_nil))))⟩
def F_strangers : List D → W D := defW 1 2 B_strangers.1
/-! turned -/
def M_turned : Mo := ⟨[("strangers", F_strangers)], 2, free, cons⟩
def S_turned : Fix := ⟨["table"], C8.fnScope (st 26), fun _ => true, []⟩
def B_turned : { w : PW.Env → W Out // EvSs M_turned S_turned (C8.fnBody (st 26)) w } := ⟨_,
  (ss_one (s_ret (v_tup (av_cons (v_ix (v_var 0).toB v_int) (av_cons (v_call 0 (av_cons (v_var 0) av_nil)) av_nil)))))⟩
def F_turned : List D → W D := defW 1 1 B_turned.1
/-! _law_alike -/
def M__law_alike : Mo := ⟨[], 0, free, cons⟩
def S__law_alike : Fix := ⟨["found", "due", "pairs", "at", "one", "other"], C8.fnScope (st 78), fun _ => true, [2]⟩
def B__law_alike : { w : PW.Env → W Out // EvSs M__law_alike S__law_alike (C8.fnBody (st 78)) w } := ⟨_,
  (ss_cons (s_parF 2 3 (f_lst (av_cons (v_tup (av_cons (v_var 0) (av_cons (v_var 1) av_nil))) av_nil)) v_int)
  (ss_cons (s_while (t_cmp o_lt (v_var 3).toB (v_callB c_len (ab_cons (b_var 2) ab_nil)).toB) (ss_cons (s_asg (v_ix (b_var 2) (v_var 3)) (g_tp (gs_cons (g_nm 4) (gs_cons (g_nm 5) gs_nil))))
  (ss_cons (s_augI 3 v_int)
  (ss_cons (s_if (tw_or (t_cmp o_ne (v_callB c_isi (ab_cons (v_var 4).toB (ab_cons (PW.v_ty (T := "bool")).toB ab_nil))).toB (v_callB c_isi (ab_cons (v_var 5).toB (ab_cons (PW.v_ty (T := "bool")).toB ab_nil))).toB) (tw_or1 (t_cmp o_ne (v_callB c_isi (ab_cons (v_var 4).toB (ab_cons (PW.v_ty (T := "str")).toB ab_nil))).toB (v_callB c_isi (ab_cons (v_var 5).toB (ab_cons (PW.v_ty (T := "str")).toB ab_nil))).toB))).t (ss_one (s_ret v_bl)) ss_nil)
  (ss_cons (s_if (t_cmp o_ne (v_callB c_isi (ab_cons (v_var 4).toB (ab_cons (v_tup (av_cons (PW.v_ty (T := "tuple")) (av_cons (PW.v_ty (T := "list")) av_nil))).toB ab_nil))).toB (v_callB c_isi (ab_cons (v_var 5).toB (ab_cons (v_tup (av_cons (PW.v_ty (T := "tuple")) (av_cons (PW.v_ty (T := "list")) av_nil))).toB ab_nil))).toB) (ss_one (s_ret v_bl)) ss_nil)
  (ss_one (s_if (t_val (v_callB c_isi (ab_cons (v_var 4).toB (ab_cons (v_tup (av_cons (PW.v_ty (T := "tuple")) (av_cons (PW.v_ty (T := "list")) av_nil))).toB ab_nil))).toB) (ss_cons (s_if (tw_or (t_cmp o_ne (v_callB c_isi (ab_cons (v_var 4).toB (ab_cons (PW.v_ty (T := "tuple")).toB ab_nil))).toB (v_callB c_isi (ab_cons (v_var 5).toB (ab_cons (PW.v_ty (T := "tuple")).toB ab_nil))).toB) (tw_or1 (t_cmp o_ne (v_callB c_len (ab_cons (v_var 4).toB ab_nil)).toB (v_callB c_len (ab_cons (v_var 5).toB ab_nil)).toB))).t (ss_one (s_ret v_bl)) ss_nil)
  (ss_one (s_extend 2 (v_listzip (av_cons (v_var 4) (av_cons (v_var 5) av_nil))).toB))) (ss_one (s_if (t_cmp o_ne (v_var 4).toB (v_var 5).toB) (ss_one (s_ret v_bl)) ss_nil)))))))))
  (ss_one (s_ret v_bl))))⟩
def F__law_alike : List D → W D := defW 2 6 B__law_alike.1
/-! are_all -/
def M_are_all : Mo := ⟨[("is_integer", F_is_integer)], 1, free, cons⟩
def S_are_all : Fix := ⟨["thing", "fits", "member"], C8.fnScope (st 10), fun _ => true, []⟩
def B_are_all : { w : PW.Env → W Out // EvSs M_are_all S_are_all (C8.fnBody (st 10)) w } := ⟨_,
  (ss_one (s_ret (v_and (v_callB c_isi (ab_cons (v_var 0).toB (ab_cons (PW.v_ty (T := "tuple")).toB ab_nil))) (v_one (v_callB c_all (ab_cons (f_lc [("member", 2)] (i_val (v_var 0)) (g_nm 2) ts_nil (v_callV 1 (av_cons (v_var 2) av_nil))).toV.toB ab_nil))))))⟩
def F_are_all : List D → W D := defW 2 3 B_are_all.1
/-! are_integers -/
def M_are_integers : Mo := ⟨[("are_all", F_are_all), ("is_integer", F_is_integer)], 2, free, cons⟩
def S_are_integers : Fix := ⟨["thing"], C8.fnScope (st 11), fun _ => true, []⟩
def B_are_integers : { w : PW.Env → W Out // EvSs M_are_integers S_are_integers (C8.fnBody (st 11)) w } := ⟨_,
  (ss_one (s_ret (v_call 0 (av_cons (v_var 0) (av_cons (v_fn 1 _) av_nil)))))⟩
def F_are_integers : List D → W D := defW 1 1 B_are_integers.1
/-! do_rise -/
def M_do_rise : Mo := ⟨[("are_all", F_are_all), ("are_integers", F_are_integers)], 3, free, cons⟩
def S_do_rise : Fix := ⟨["thing", "one", "other"], C8.fnScope (st 13), fun _ => true, []⟩
def B_do_rise : { w : PW.Env → W Out // EvSs M_do_rise S_do_rise (C8.fnBody (st 13)) w } := ⟨_,
  (ss_cons (s_if (tw_and (t_not (t_val (v_call 1 (av_cons (v_var 0) av_nil)).toB)) (tw_and (t_not t_never) (tw_and1 (t_not (t_val (v_call 0 (av_cons (v_var 0) (av_cons (v_fn 1 _) av_nil))).toB))))).t (ss_one (s_ret v_bl)) ss_nil)
  (ss_one (s_ret (v_callB c_all (ab_cons (f_lc [("one", 1), ("other", 2)] (i_zip (av_cons (v_var 0) (av_cons (v_slice (v_var 0).toB (p_some v_int) p_none) av_nil))) (g_tp (gs_cons (g_nm 1) (gs_cons (g_nm 2) gs_nil))) ts_nil (v_cmp o_lt (v_var 1).toB (v_var 2).toB)).toV.toB ab_nil)))))⟩
def F_do_rise : List D → W D := defW 1 3 B_do_rise.1
/-! is_lot -/
def M_is_lot : Mo := ⟨[("do_rise", F_do_rise), ("are_integers", F_are_integers)], 4, free, cons⟩
def S_is_lot : Fix := ⟨["table", "thing", "one"], C8.fnScope (st 21), fun _ => true, []⟩
def B_is_lot : { w : PW.Env → W Out // EvSs M_is_lot S_is_lot (C8.fnBody (st 21)) w } := ⟨_,
  (ss_one (s_ret (v_and (v_call 1 (av_cons (v_var 1) av_nil)) (v_and (v_call 0 (av_cons (v_var 1) av_nil)) (v_one (v_callB c_all (ab_cons (f_lc [("one", 2)] (i_val (v_var 1)) (g_nm 2) ts_nil (v_chain o_le o_lt v_int.toB (v_var 2).toB (v_ix (v_var 0).toB v_int).toB)).toV.toB ab_nil)))))))⟩
def F_is_lot : List D → W D := defW 2 3 B_is_lot.1
/-! is_parting -/
def M_is_parting : Mo := ⟨[("does_part", F_does_part), ("is_lot", F_is_lot)], 5, free, cons⟩
def S_is_parting : Fix := ⟨["table", "thing"], C8.fnScope (st 50), fun _ => true, []⟩
def B_is_parting : { w : PW.Env → W Out // EvSs M_is_parting S_is_parting (C8.fnBody (st 50)) w } := ⟨_,
  (ss_one (s_ret (v_and (v_call 1 (av_cons (v_var 0) (av_cons (v_var 1) av_nil))) (v_one (v_call 0 (av_cons (v_var 0) (av_cons (v_var 1) av_nil)))))))⟩
def F_is_parting : List D → W D := defW 2 2 B_is_parting.1
/-! rings_of -/
def M_rings_of : Mo := ⟨[("people", F_people), ("is_known", F_is_known)], 1, free, cons⟩
def S_rings_of : Fix := ⟨["table", "many", "found", "turn", "longer", "row", "some", "one"], C8.fnScope (st 34), fun _ => true, [4]⟩
def B_rings_of : { w : PW.Env → W Out // EvSs M_rings_of S_rings_of (C8.fnBody (st 34)) w } := ⟨_,
  (ss_cons (s_setLc 2 [("one", 7)] (i_range1 (ab_cons (v_call 0 (av_cons (v_var 0) av_nil)).toB ab_nil)) (g_nm 7) ts_nil (v_tup (av_cons (v_var 7) av_nil)))
  (ss_cons (s_for (i_range1 (ab_cons (v_bin o_sub (v_var 1).toB v_int.toB).toB ab_nil)) (g_nm 3) (ss_cons (s_setF 4 (f_lst av_nil))
  (ss_cons (s_for (i_val (v_var 2)) (g_nm 5) (ss_cons (s_set 6 (v_callT c_range (ab_cons (v_bin o_add (v_ix (v_var 5).toB v_int).toB v_int.toB).toB (ab_cons (v_call 0 (av_cons (v_var 0) av_nil)).toB ab_nil))))
  (ss_one (s_extend 4 (f_lc [("one", 7)] (i_val (v_var 6)) (g_nm 7) (ts_one (t_val (v_call 1 (av_cons (v_var 0) (av_cons (v_ix (v_var 5).toB (v_neg v_int.toB)) (av_cons (v_var 7) av_nil)))).toB)) (v_tup (av_star (v_var 5).toB (av_cons (v_var 7) av_nil)))).toV.toB))))
  (ss_one (s_move 2 4)))))
  (ss_one (s_ret (f_lc [("row", 5)] (i_val (v_var 2)) (g_nm 5) (ts_one (t_val (v_call 1 (av_cons (v_var 0) (av_cons (v_ix (v_var 5).toB v_int) (av_cons (v_ix (v_var 5).toB (v_neg v_int.toB)) av_nil)))).toB)) (v_var 5)).toV))))⟩
def F_rings_of : List D → W D := defW 2 8 B_rings_of.1
/-! are_different -/
def M_are_different : Mo := ⟨[("are_integers", F_are_integers), ("is_lot", F_is_lot)], 5, free, cons⟩
def S_are_different : Fix := ⟨["table", "thing", "many"], C8.fnScope (st 30), fun _ => true, []⟩
def B_are_different : { w : PW.Env → W Out // EvSs M_are_different S_are_different (C8.fnBody (st 30)) w } := ⟨_,
  (ss_cons (s_if (tw_or (t_not (t_val (v_call 0 (av_cons (v_var 1) av_nil)).toB)) (tw_or1 (t_cmp o_ne (v_callB c_len (ab_cons (v_var 1).toB ab_nil)).toB (v_var 2).toB))).t (ss_one (s_ret v_bl)) ss_nil)
  (ss_one (s_ret (v_call 1 (av_cons (v_var 0) (av_cons (v_callT c_tuple (ab_cons (f_callB c_sorted (ab_cons (v_var 1).toB ab_nil)).toV.toB ab_nil)) av_nil))))))⟩
def F_are_different : List D → W D := defW 3 3 B_are_different.1
/-! known_among -/
def M_known_among : Mo := ⟨[("is_known", F_is_known)], 1, free, cons⟩
def S_known_among : Fix := ⟨["table", "some", "places", "at", "to"], C8.fnScope (st 31), fun _ => true, []⟩
def B_known_among : { w : PW.Env → W Out // EvSs M_known_among S_known_among (C8.fnBody (st 31)) w } := ⟨_,
  (ss_cons (s_set 2 (f_callT c_list (ab_cons (v_callT c_range (ab_cons (v_callB c_len (ab_cons (v_var 1).toB ab_nil)).toB ab_nil)).toB ab_nil)).toV)
  (ss_one (s_ret (f_lc2 [("at", 3), ("to", 4)] [4] (i_val (v_var 2)) (g_nm 3) ts_nil (i_val (v_var 2)) (g_nm 4) (ts_one (tw_and (t_cmp o_lt (v_var 3).toB (v_var 4).toB) (tw_and1 (t_val (v_call 0 (av_cons (v_var 0) (av_cons (v_ix (v_var 1).toB (v_var 3)) (av_cons (v_ix (v_var 1).toB (v_var 4)) av_nil)))).toB))).t) (v_tup (av_cons (v_var 3) (av_cons (v_var 4) av_nil)))).toV)))⟩
def F_known_among : List D → W D := defW 2 5 B_known_among.1
/-! is_square -/
def M_is_square : Mo := ⟨[("are_different", F_are_different), ("known_among", F_known_among)], 6, free, cons⟩
def S_is_square : Fix := ⟨["table", "thing"], C8.fnScope (st 32), fun _ => true, []⟩
def B_is_square : { w : PW.Env → W Out // EvSs M_is_square S_is_square (C8.fnBody (st 32)) w } := ⟨_,
  (ss_cons (s_if (tw_or (t_not (t_val (v_call 0 (av_cons (v_var 0) (av_cons (v_var 1) (av_cons v_int av_nil)))).toB)) (tw_or (t_cmp o_ne (v_ix (v_var 1).toB v_int).toB (v_callB c_min (ab_cons (v_var 1).toB ab_nil)).toB) (tw_or1 (t_cmp o_gt (v_ix (v_var 1).toB v_int).toB (v_ix (v_var 1).toB v_int).toB)))).t (ss_one (s_ret v_bl)) ss_nil)
  (ss_one (s_ret (v_cmp o_eq (v_call 1 (av_cons (v_var 0) (av_cons (v_var 1) av_nil))).toB (f_lst (av_cons (v_tup (av_cons v_int (av_cons v_int av_nil))) (av_cons (v_tup (av_cons v_int (av_cons v_int av_nil))) (av_cons (v_tup (av_cons v_int (av_cons v_int av_nil))) (av_cons (v_tup (av_cons v_int (av_cons v_int av_nil))) av_nil))))).toV.toB))))⟩
def F_is_square : List D → W D := defW 2 2 B_is_square.1
/-! squares -/
def M_squares : Mo := ⟨[("rings_of", F_rings_of), ("is_square", F_is_square)], 7, free, cons⟩
def S_squares : Fix := ⟨["table", "row"], C8.fnScope (st 35), fun _ => true, []⟩
def B_squares : { w : PW.Env → W Out // EvSs M_squares S_squares (C8.fnBody (st 35)) w } := ⟨_,
  (ss_one (s_ret (v_callT c_tuple (ab_cons (f_lc [("row", 1)] (i_val (v_call 0 (av_cons (v_var 0) (av_cons v_int av_nil)))) (g_nm 1) (ts_one (t_val (v_call 1 (av_cons (v_var 0) (av_cons (v_var 1) av_nil))).toB)) (v_var 1)).toV.toB ab_nil))))⟩
def F_squares : List D → W D := defW 1 2 B_squares.1
/-! is_five -/
def M_is_five : Mo := ⟨[("are_different", F_are_different), ("known_among", F_known_among)], 6, free, cons⟩
def S_is_five : Fix := ⟨["table", "thing"], C8.fnScope (st 33), fun _ => true, []⟩
def B_is_five : { w : PW.Env → W Out // EvSs M_is_five S_is_five (C8.fnBody (st 33)) w } := ⟨_,
  (ss_cons (s_if (tw_or (t_not (t_val (v_call 0 (av_cons (v_var 0) (av_cons (v_var 1) (av_cons v_int av_nil)))).toB)) (tw_or (t_cmp o_ne (v_ix (v_var 1).toB v_int).toB (v_callB c_min (ab_cons (v_var 1).toB ab_nil)).toB) (tw_or1 (t_cmp o_gt (v_ix (v_var 1).toB v_int).toB (v_ix (v_var 1).toB v_int).toB)))).t (ss_one (s_ret v_bl)) ss_nil)
  (ss_one (s_ret (v_cmp o_eq (v_call 1 (av_cons (v_var 0) (av_cons (v_var 1) av_nil))).toB (f_lst (av_cons (v_tup (av_cons v_int (av_cons v_int av_nil))) (av_cons (v_tup (av_cons v_int (av_cons v_int av_nil))) (av_cons (v_tup (av_cons v_int (av_cons v_int av_nil))) (av_cons (v_tup (av_cons v_int (av_cons v_int av_nil))) (av_cons (v_tup (av_cons v_int (av_cons v_int av_nil))) av_nil)))))).toV.toB))))⟩
def F_is_five : List D → W D := defW 2 2 B_is_five.1
/-! fives -/
def M_fives : Mo := ⟨[("rings_of", F_rings_of), ("is_five", F_is_five)], 7, free, cons⟩
def S_fives : Fix := ⟨["table", "row"], C8.fnScope (st 36), fun _ => true, []⟩
def B_fives : { w : PW.Env → W Out // EvSs M_fives S_fives (C8.fnBody (st 36)) w } := ⟨_,
  (ss_one (s_ret (v_callT c_tuple (ab_cons (f_lc [("row", 1)] (i_val (v_call 0 (av_cons (v_var 0) (av_cons v_int av_nil)))) (g_nm 1) (ts_one (t_val (v_call 1 (av_cons (v_var 0) (av_cons (v_var 1) av_nil))).toB)) (v_var 1)).toV.toB ab_nil))))⟩
def F_fives : List D → W D := defW 1 2 B_fives.1
/-! _law_lack -/
def M__law_lack : Mo := ⟨[], 0, free, cons⟩
def S__law_lack : Fix := ⟨["some", "row", "head_v", "place", "many"], C8.fnScope (st 88), fun _ => true, []⟩
def B__law_lack : { w : PW.Env → W Out // EvSs M__law_lack S__law_lack (C8.fnBody (st 88)) w } := ⟨_,
  (ss_cons (s_set 1 (v_rev (f_callB c_sorted (ab_cons (v_var 0).toB ab_nil)).toV.toB))
  (ss_cons (s_set 2 (v_callB c_len (ab_cons (f_lc [("place", 3), ("many", 4)] (i_enum (av_cons (v_var 1) av_nil)) (g_tp (gs_cons (g_nm 3) (gs_cons (g_nm 4) gs_nil))) (ts_one (t_cmp o_ge (v_var 4).toB (v_var 3).toB)) v_int).toV.toB ab_nil)))
  (ss_one (s_ret (v_bin o_sub (v_bin o_add (v_bin o_mul (v_var 2).toB (v_bin o_sub (v_var 2).toB v_int.toB).toB).toB (v_callB c_sum (ab_cons (v_slice (v_var 1).toB (p_some (v_var 2)) p_none).toB ab_nil)).toB).toB (v_callB c_sum (ab_cons (v_slice (v_var 1).toB p_none (p_some (v_var 2))).toB ab_nil)).toB)))))⟩
def F__law_lack : List D → W D := defW 1 5 B__law_lack.1
/-! _law_counts -/
def M__law_counts : Mo := ⟨[], 0, free, cons⟩
def S__law_counts : Fix := ⟨["table", "one", "couple"], C8.fnScope (st 87), fun _ => true, []⟩
def B__law_counts : { w : PW.Env → W Out // EvSs M__law_counts S__law_counts (C8.fnBody (st 87)) w } := ⟨_,
  (ss_one (s_ret (f_lc [("one", 1)] (i_range1 (ab_cons (v_ix (v_var 0).toB v_int).toB ab_nil)) (g_nm 1) ts_nil (v_callB c_len (ab_cons (f_lc [("couple", 2)] (i_val (v_ix (v_var 0).toB v_int)) (g_nm 2) (ts_one (t_cmp1 o_in (v_var 1) (v_var 2).toB)) v_int).toV.toB ab_nil))).toV))⟩
def F__law_counts : List D → W D := defW 1 3 B__law_counts.1
/-! goes -/
def M_goes : Mo := ⟨[("is_known", F_is_known)], 1, free, cons⟩
def S_goes : Fix := ⟨["table", "change", "a", "b", "c", "d"], C8.fnScope (st 59), fun _ => true, []⟩
def B_goes : { w : PW.Env → W Out // EvSs M_goes S_goes (C8.fnBody (st 59)) w } := ⟨_,
  (ss_cons (s_asg (v_var 1) (g_tp (gs_cons (g_nm 2) (gs_cons (g_nm 3) (gs_cons (g_nm 4) (gs_cons (g_nm 5) gs_nil))))))
  (ss_cons (s_if (tw_or (t_not (t_val (v_call 0 (av_cons (v_var 0) (av_cons (v_var 2) (av_cons (v_var 3) av_nil)))).toB)) (tw_or1 (t_not (t_val (v_call 0 (av_cons (v_var 0) (av_cons (v_var 4) (av_cons (v_var 5) av_nil)))).toB)))).t (ss_one (s_ret v_bl)) ss_nil)
  (ss_one (s_ret (v_and (v_not (v_call 0 (av_cons (v_var 0) (av_cons (v_var 2) (av_cons (v_var 5) av_nil)))).toB) (v_one (v_not (v_call 0 (av_cons (v_var 0) (av_cons (v_var 3) (av_cons (v_var 4) av_nil)))).toB)))))))⟩
def F_goes : List D → W D := defW 2 6 B_goes.1
/-! in_turn -/
def M_in_turn : Mo := ⟨[], 0, free, cons⟩
def S_in_turn : Fix := ⟨["a", "b", "c", "d"], C8.fnScope (st 61), fun _ => true, []⟩
def B_in_turn : { w : PW.Env → W Out // EvSs M_in_turn S_in_turn (C8.fnBody (st 61)) w } := ⟨_,
  (ss_one (s_ret (v_callB c_min (ab_cons (f_lst (av_cons (v_tup (av_cons (v_var 0) (av_cons (v_var 1) (av_cons (v_var 2) (av_cons (v_var 3) av_nil))))) (av_cons (v_tup (av_cons (v_var 1) (av_cons (v_var 0) (av_cons (v_var 3) (av_cons (v_var 2) av_nil))))) (av_cons (v_tup (av_cons (v_var 2) (av_cons (v_var 3) (av_cons (v_var 0) (av_cons (v_var 1) av_nil))))) (av_cons (v_tup (av_cons (v_var 3) (av_cons (v_var 2) (av_cons (v_var 1) (av_cons (v_var 0) av_nil))))) av_nil))))).toV.toB ab_nil))))⟩
def F_in_turn : List D → W D := defW 4 4 B_in_turn.1
/-! changes -/
def M_changes : Mo := ⟨[("goes", F_goes), ("in_turn", F_in_turn)], 2, free, cons⟩
def S_changes : Fix := ⟨["table", "found", "a", "b", "c", "d", "row", "one"], C8.fnScope (st 62), fun _ => true, [1]⟩
def B_changes : { w : PW.Env → W Out // EvSs M_changes S_changes (C8.fnBody (st 62)) w } := ⟨_,
  (ss_cons (s_setF 1 (f_newT))
  (ss_cons (s_for (i_val (v_ix (v_var 0).toB v_int)) (g_tp (gs_cons (g_nm 2) (gs_cons (g_nm 3) gs_nil))) (ss_one (s_for (i_val (v_ix (v_var 0).toB v_int)) (g_tp (gs_cons (g_nm 4) (gs_cons (g_nm 5) gs_nil))) (ss_one (s_for (i_val (v_tup (av_cons (v_tup (av_cons (v_var 2) (av_cons (v_var 3) (av_cons (v_var 4) (av_cons (v_var 5) av_nil))))) (av_cons (v_tup (av_cons (v_var 2) (av_cons (v_var 3) (av_cons (v_var 5) (av_cons (v_var 4) av_nil))))) av_nil)))) (g_nm 6) (ss_one (s_if (tw_and (t_cmp o_eq (v_callB c_len (ab_cons (f_dc [("one", 7)] (i_val (v_var 6)) (g_nm 7) ts_nil (v_var 7) v_bl).toV.toB ab_nil)).toB v_int.toB) (tw_and1 (t_val (v_call 0 (av_cons (v_var 0) (av_cons (v_var 6) av_nil))).toB))).t (ss_one (s_dput 1 (v_call 1 (av_cons (v_ix (v_var 6).toB v_int) (av_cons (v_ix (v_var 6).toB v_int) (av_cons (v_ix (v_var 6).toB v_int) (av_cons (v_ix (v_var 6).toB v_int) av_nil))))) v_bl)) ss_nil)))))))
  (ss_one (s_ret (v_callT c_tuple (ab_cons (f_callB c_sorted (ab_cons (b_var 1) ab_nil)).toV.toB ab_nil))))))⟩
def F_changes : List D → W D := defW 1 8 B_changes.1
/-! is_change -/
def M_is_change : Mo := ⟨[("is_lot", F_is_lot), ("are_integers", F_are_integers), ("goes", F_goes)], 5, free, cons⟩
def S_is_change : Fix := ⟨["table", "thing"], C8.fnScope (st 60), fun _ => true, []⟩
def B_is_change : { w : PW.Env → W Out // EvSs M_is_change S_is_change (C8.fnBody (st 60)) w } := ⟨_,
  (ss_cons (s_if (tw_or (t_not (t_val (v_call 1 (av_cons (v_var 1) av_nil)).toB)) (tw_or (t_cmp o_ne (v_callB c_len (ab_cons (v_var 1).toB ab_nil)).toB v_int.toB) (tw_or1 (t_not (t_val (v_call 0 (av_cons (v_var 0) (av_cons (v_callT c_tuple (ab_cons (f_callB c_sorted (ab_cons (v_var 1).toB ab_nil)).toV.toB ab_nil)) av_nil))).toB))))).t (ss_one (s_ret v_bl)) ss_nil)
  (ss_one (s_ret (v_and (v_cmp o_eq (v_ix (v_var 1).toB v_int).toB (v_callB c_min (ab_cons (v_var 1).toB ab_nil)).toB) (v_one (v_call 2 (av_cons (v_var 0) (av_cons (v_var 1) av_nil))))))))⟩
def F_is_change : List D → W D := defW 2 2 B_is_change.1
/-! need_change -/
def M_need_change : Mo := ⟨[("is_change", F_is_change)], 6, free, cons⟩
def S_need_change : Fix := ⟨["table", "change"], C8.fnScope (st 64), fun _ => true, []⟩
def B_need_change : { w : PW.Env → W Out // EvSs M_need_change S_need_change (C8.fnBody (st 64)) w } := ⟨_,
  (ss_one (s_if (t_not (t_val (v_call 0 (av_cons (v_var 0) (av_cons (v_var 1) av_nil))).toB)) (ss_one s_never) ss_nil))⟩
def F_need_change : List D → W D := defW 2 2 B_need_change.1
/-! by_change -/
def M_by_change : Mo := ⟨[], 0, free, cons⟩
def S_by_change : Fix := ⟨["table", "change", "a", "b", "c", "d", "gone", "come", "couple"], C8.fnScope (st 63), fun _ => true, []⟩
def B_by_change : { w : PW.Env → W Out // EvSs M_by_change S_by_change (C8.fnBody (st 63)) w } := ⟨_,
  (ss_cons (s_asg (v_var 1) (g_tp (gs_cons (g_nm 2) (gs_cons (g_nm 3) (gs_cons (g_nm 4) (gs_cons (g_nm 5) gs_nil))))))
  (ss_cons (s_set 6 (f_lst (av_cons (v_tup (av_cons (v_callB c_min (ab_cons (v_var 2).toB (ab_cons (v_var 3).toB ab_nil))) (av_cons (v_callB c_max (ab_cons (v_var 2).toB (ab_cons (v_var 3).toB ab_nil))) av_nil))) (av_cons (v_tup (av_cons (v_callB c_min (ab_cons (v_var 4).toB (ab_cons (v_var 5).toB ab_nil))) (av_cons (v_callB c_max (ab_cons (v_var 4).toB (ab_cons (v_var 5).toB ab_nil))) av_nil))) av_nil))).toV)
  (ss_cons (s_set 7 (f_lst (av_cons (v_tup (av_cons (v_callB c_min (ab_cons (v_var 2).toB (ab_cons (v_var 5).toB ab_nil))) (av_cons (v_callB c_max (ab_cons (v_var 2).toB (ab_cons (v_var 5).toB ab_nil))) av_nil))) (av_cons (v_tup (av_cons (v_callB c_min (ab_cons (v_var 3).toB (ab_cons (v_var 4).toB ab_nil))) (av_cons (v_callB c_max (ab_cons (v_var 3).toB (ab_cons (v_var 4).toB ab_nil))) av_nil))) av_nil))).toV)
  (ss_one (s_ret (v_tup (av_cons (v_ix (v_var 0).toB v_int) (av_cons (v_callT c_tuple (ab_cons (f_callB c_sorted (ab_cons (f_lst (av_star (f_lc [("couple", 8)] (i_val (v_ix (v_var 0).toB v_int)) (g_nm 8) (ts_one (t_cmp1 o_notin (v_var 8) (v_var 6).toB)) (v_var 8)).toV.toB (av_star (v_var 7).toB av_nil))).toV.toB ab_nil)).toV.toB ab_nil)) av_nil))))))))⟩
def F_by_change : List D → W D := defW 2 9 B_by_change.1
/-! changed -/
def M_changed : Mo := ⟨[("need_change", F_need_change), ("by_change", F_by_change)], 7, free, cons⟩
def S_changed : Fix := ⟨["table", "change"], C8.fnScope (st 65), fun _ => true, []⟩
def B_changed : { w : PW.Env → W Out // EvSs M_changed S_changed (C8.fnBody (st 65)) w } := ⟨_,
  (ss_cons (s_expr (v_call 0 (av_cons (v_var 0) (av_cons (v_var 1) av_nil))))
  (ss_one (s_ret (v_call 1 (av_cons (v_var 0) (av_cons (v_var 1) av_nil))))))⟩
def F_changed : List D → W D := defW 2 2 B_changed.1
/-! is_still -/
def M_is_still : Mo := ⟨[("changes", F_changes)], 3, free, cons⟩
def S_is_still : Fix := ⟨["table"], C8.fnScope (st 66), fun _ => true, []⟩
def B_is_still : { w : PW.Env → W Out // EvSs M_is_still S_is_still (C8.fnBody (st 66)) w } := ⟨_,
  (ss_one (s_ret (v_cmp o_eq (v_call 0 (av_cons (v_var 0) av_nil)).toB (v_tup av_nil).toB)))⟩
def F_is_still : List D → W D := defW 1 1 B_is_still.1
/-! lack_with -/
def M_lack_with : Mo := ⟨[("need_two", F_need_two), ("lack_by", F_lack_by)], 8, free, cons⟩
def S_lack_with : Fix := ⟨["table", "a", "b"], C8.fnScope (st 70), fun _ => true, []⟩
def B_lack_with : { w : PW.Env → W Out // EvSs M_lack_with S_lack_with (C8.fnBody (st 70)) w } := ⟨_,
  (ss_cons (s_expr (v_call 0 (av_cons (v_var 0) (av_cons (v_var 1) (av_cons (v_var 2) av_nil)))))
  (ss_one (s_ret (v_call 1 (av_cons (v_var 0) (av_cons (v_var 1) (av_cons (v_var 2) av_nil)))))))⟩
def F_lack_with : List D → W D := defW 3 3 B_lack_with.1
/-! part_of -/
def M_part_of : Mo := ⟨[("is_lot", F_is_lot)], 5, free, cons⟩
def S_part_of : Fix := ⟨["table", "lot", "places", "place", "one", "a", "b"], C8.fnScope (st 25), fun _ => true, []⟩
def B_part_of : { w : PW.Env → W Out // EvSs M_part_of S_part_of (C8.fnBody (st 25)) w } := ⟨_,
  (ss_cons (s_if (tw_or (t_not (t_val (v_call 0 (av_cons (v_var 0) (av_cons (v_var 1) av_nil))).toB)) (tw_or1 (t_cmp o_eq (v_var 1).toB (v_tup av_nil).toB))).t (ss_one s_never) ss_nil)
  (ss_cons (s_set 2 (f_dc [("place", 3), ("one", 4)] (i_enum (av_cons (v_var 1) av_nil)) (g_tp (gs_cons (g_nm 3) (gs_cons (g_nm 4) gs_nil))) ts_nil (v_var 4) (v_var 3)).toV)
  (ss_one (s_ret (v_tup (av_cons (v_callB c_len (ab_cons (v_var 1).toB ab_nil)) (av_cons (v_callT c_tuple (ab_cons (f_lc [("a", 5), ("b", 6)] (i_val (v_ix (v_var 0).toB v_int)) (g_tp (gs_cons (g_nm 5) (gs_cons (g_nm 6) gs_nil))) (ts_one (tw_and (t_cmp1 o_in (v_var 5) (v_var 2).toB) (tw_and1 (t_cmp1 o_in (v_var 6) (v_var 2).toB))).t) (v_tup (av_cons (v_ix (v_var 2).toB (v_var 5)) (av_cons (v_ix (v_var 2).toB (v_var 6)) av_nil)))).toV.toB ab_nil)) av_nil)))))))⟩
def F_part_of : List D → W D := defW 2 7 B_part_of.1
/-! _law_part_of -/
def M__law_part_of : Mo := ⟨[], 0, free, cons⟩
def S__law_part_of : Fix := ⟨["table", "lot", "places", "place", "one", "a", "b"], C8.fnScope (st 92), fun _ => true, []⟩
def B__law_part_of : { w : PW.Env → W Out // EvSs M__law_part_of S__law_part_of (C8.fnBody (st 92)) w } := ⟨_,
  (ss_cons (s_set 2 (f_callT c_dict (ab_cons (f_lc [("place", 3), ("one", 4)] (i_enum (av_cons (v_var 1) av_nil)) (g_tp (gs_cons (g_nm 3) (gs_cons (g_nm 4) gs_nil))) ts_nil (v_tup (av_cons (v_var 4) (av_cons (v_var 3) av_nil)))).toV.toB ab_nil)).toV)
  (ss_one (s_ret (v_tup (av_cons (v_callB c_len (ab_cons (v_var 1).toB ab_nil)) (av_cons (v_callT c_tuple (ab_cons (f_lc [("a", 5), ("b", 6)] (i_val (v_ix (v_var 0).toB v_int)) (g_tp (gs_cons (g_nm 5) (gs_cons (g_nm 6) gs_nil))) (ts_one (tw_and (t_cmp1 o_in (v_var 5) (v_var 2).toB) (tw_and1 (t_cmp1 o_in (v_var 6) (v_var 2).toB))).t) (v_tup (av_cons (v_ix (v_var 2).toB (v_var 5)) (av_cons (v_ix (v_var 2).toB (v_var 6)) av_nil)))).toV.toB ab_nil)) av_nil))))))⟩
def F__law_part_of : List D → W D := defW 2 7 B__law_part_of.1
/-! law -/
def M_law : Mo := ⟨[("_law_bag", F__law_bag), ("_law_table", F__law_table), ("_law_partings", F__law_partings), ("_law_bars", F__law_bars), ("a_parting", F_a_parting), ("_law_couples", F__law_couples), ("partings", F_partings), ("partings_many", F_partings_many), ("lack", F_lack), ("better", F_better), ("fewest_wrong", F_fewest_wrong), ("turned", F_turned), ("_law_alike", F__law_alike), ("is_parting", F_is_parting), ("_law_others", F__law_others), ("squares", F_squares), ("fives", F_fives), ("half_lack", F_half_lack), ("_law_lack", F__law_lack), ("_law_counts", F__law_counts), ("changes", F_changes), ("changed", F_changed), ("is_still", F_is_still), ("lack_with", F_lack_with), ("_law_some", F__law_some), ("_law_lots", F__law_lots), ("part_of", F_part_of), ("_law_part_of", F__law_part_of)], 9, free, cons⟩
def S_law : Fix := ⟨["script", "bag", "turn", "table", "many", "every", "bars", "told", "about", "found", "rings", "change", "there", "a", "b", "lot", "part", "one", "its", "word", "row"], C8.fnScope (st 95), fun _ => true, []⟩
def B_law : { w : PW.Env → W Out // EvSs M_law S_law (C8.fnBody (st 95)) w } := ⟨_,
  (ss_cons (s_set 1 (v_call 0 (av_cons (v_var 0) av_nil)))
  (ss_cons (s_for (i_range1 (ab_cons v_int.toB ab_nil)) (g_nm 2) (ss_cons (s_set 3 (v_call 1 (av_cons (v_var 1) (av_cons v_int av_nil))))
  (ss_cons (s_asg (v_tup (av_cons (v_ix (v_var 3).toB v_int) (av_cons (v_call 2 (av_cons (v_var 3) av_nil)) (av_cons (v_call 3 (av_cons (v_var 3) av_nil)) av_nil)))) (g_tp (gs_cons (g_nm 4) (gs_cons (g_nm 5) (gs_cons (g_nm 6) gs_nil)))))
  (ss_cons (s_par 7 8 (v_call 4 (av_cons (v_var 3) av_nil)) (v_tup (av_cons (v_var 4) (av_cons (v_callT c_tuple (ab_cons (f_lc [("one", 17)] (i_val (v_call 5 (av_cons (v_var 4) av_nil))) (g_nm 17) (ts_one (t_cmp1 o_notin (v_var 17) (v_ix (v_var 3).toB v_int).toB)) (v_var 17)).toV.toB ab_nil)) av_nil))))
  (ss_cons (s_set 9 (f_lst (av_cons (v_call 6 (av_cons (v_var 3) av_nil)) (av_cons (v_call 7 (av_cons (v_var 3) av_nil)) (av_cons (v_cmp o_is (v_var 7).toB v_non.toB) (av_cons (v_cmp o_eq (v_call 8 (av_cons (v_var 3) av_nil)).toB v_int.toB) (av_cons (v_cmp o_eq (v_call 9 (av_cons (v_var 3) av_nil)).toB (v_tup av_nil).toB) (av_cons (v_cmp o_eq (v_call 10 (av_cons (v_var 3) av_nil)).toB v_int.toB) (av_cons (v_call 11 (av_cons (v_var 3) av_nil)) av_nil)))))))).toV)
  (ss_cons (s_if (tw_or (t_not (t_val (v_call 12 (av_cons (v_var 9) (av_cons (f_lst (av_cons (v_callT c_tuple (ab_cons (v_var 5).toB ab_nil)) (av_cons (v_callB c_len (ab_cons (v_var 5).toB ab_nil)) (av_cons (v_cmp o_eq (v_var 5).toB (f_lst av_nil).toV.toB) (av_cons (v_cmp o_ne (v_var 5).toB (f_lst av_nil).toV.toB) (av_cons (v_cmp o_ne (v_var 5).toB (f_lst av_nil).toV.toB) (av_cons (v_cmp o_ne (v_var 5).toB (f_lst av_nil).toV.toB) (av_cons (v_var 8) av_nil)))))))).toV av_nil))).toB)) (tw_or1 (t_cmp o_ne (v_cmp o_eq (v_var 6).toB (f_lst av_nil).toV.toB).toB (v_cmp o_ne (v_var 5).toB (f_lst av_nil).toV.toB).toB))).t (ss_one (s_ret v_bl)) ss_nil)
  (ss_cons (s_if (tw_and (t_cmp o_isnot (v_var 7).toB v_non.toB) (tw_and1 (tw_or (t_cmp1 o_notin (v_var 7) (v_var 5).toB) (tw_or1 (t_cmp o_isnot (v_call 13 (av_cons (v_var 8) (av_cons (v_call 14 (av_cons (v_var 3) (av_cons (v_var 7) av_nil))) av_nil))).toB v_bl.toB))).t)).t (ss_one (s_ret v_bl)) ss_nil)
  (ss_cons (s_setLc 10 [("its", 18)] (i_val (v_tup (av_cons v_str (av_cons v_str av_nil)))) (g_nm 18) ts_nil (v_callT c_tuple (ab_cons (f_lc [("word", 19), ("row", 20)] (i_val (v_var 6)) (g_tp (gs_cons (g_nm 19) (gs_cons (g_nm 20) gs_nil))) (ts_one (t_cmp o_eq (v_var 19).toB (v_var 18).toB)) (v_var 20)).toV.toB ab_nil)))
  (ss_cons (s_if (t_not (t_val (v_call 12 (av_cons (f_lst (av_cons (v_call 15 (av_cons (v_var 3) av_nil)) (av_cons (v_call 16 (av_cons (v_var 3) av_nil)) (av_cons (v_call 17 (av_cons (v_var 3) av_nil)) av_nil)))).toV (av_cons (v_bin o_add (v_var 10).toB (f_lst (av_cons (v_call 10 (av_cons (v_var 3) av_nil)) av_nil)).toV.toB) av_nil))).toB)) (ss_one (s_ret v_bl)) ss_nil)
  (ss_cons (s_if (tw_or (t_cmp o_ne (v_call 8 (av_cons (v_var 8) av_nil)).toB (v_call 8 (av_cons (v_var 3) av_nil)).toB) (tw_or1 (t_cmp o_ne (v_bin o_mul v_int.toB (v_call 17 (av_cons (v_var 3) av_nil)).toB).toB (v_call 18 (av_cons (v_call 19 (av_cons (v_var 3) av_nil)) av_nil)).toB))).t (ss_one (s_ret v_bl)) ss_nil)
  (ss_cons (s_for (i_val (v_call 20 (av_cons (v_var 3) av_nil))) (g_nm 11) (ss_cons (s_set 12 (v_call 21 (av_cons (v_var 3) (av_cons (v_var 11) av_nil))))
  (ss_one (s_if (tw_or (t_cmp o_ne (v_call 19 (av_cons (v_var 12) av_nil)).toB (v_call 19 (av_cons (v_var 3) av_nil)).toB) (tw_or (t_cmp o_ne (v_call 6 (av_cons (v_var 12) av_nil)).toB (v_callT c_tuple (ab_cons (v_var 5).toB ab_nil)).toB) (tw_or1 (t_cmp o_ne (v_call 8 (av_cons (v_var 12) av_nil)).toB (v_call 8 (av_cons (v_var 3) av_nil)).toB)))).t (ss_one (s_ret v_bl)) ss_nil))))
  (ss_cons (s_if (t_cmp o_ne (v_call 22 (av_cons (v_var 3) av_nil)).toB (v_cmp o_eq (v_call 20 (av_cons (v_var 3) av_nil)).toB (v_tup av_nil).toB).toB) (ss_one (s_ret v_bl)) ss_nil)
  (ss_cons (s_for (i_val (v_call 5 (av_cons (v_var 4) av_nil))) (g_tp (gs_cons (g_nm 13) (gs_cons (g_nm 14) gs_nil))) (ss_one (s_if (tw_or (t_cmp1 o_notin (v_bin o_sub (v_call 23 (av_cons (v_var 3) (av_cons (v_var 13) (av_cons (v_var 14) av_nil)))).toB (v_call 8 (av_cons (v_var 3) av_nil)).toB) (v_tup (av_cons (v_neg v_int.toB) (av_cons v_int (av_cons v_int av_nil)))).toB) (tw_or1 (tw_and (t_cmp o_ne (v_var 5).toB (f_lst av_nil).toV.toB) (tw_and1 (t_cmp o_lt (v_call 23 (av_cons (v_var 3) (av_cons (v_var 13) (av_cons (v_var 14) av_nil)))).toB v_int.toB))).t)).t (ss_one (s_ret v_bl)) ss_nil)))
  (ss_cons (s_set 15 (v_call 24 (av_cons (v_var 1) (av_cons (v_slice (v_call 25 (av_cons (v_var 4) av_nil)).toB (p_some v_int) p_none) av_nil))))
  (ss_cons (s_set 16 (v_call 26 (av_cons (v_var 3) (av_cons (v_var 15) av_nil))))
  (ss_one (s_if (tw_or (t_cmp o_ne (v_var 16).toB (v_call 27 (av_cons (v_var 3) (av_cons (v_var 15) av_nil))).toB) (tw_or (tw_and (t_cmp o_ne (v_var 5).toB (f_lst av_nil).toV.toB) (tw_and1 (t_cmp o_is (v_call 4 (av_cons (v_var 16) av_nil)).toB v_non.toB))).t (tw_or1 (t_cmp o_gt (v_call 8 (av_cons (v_var 16) av_nil)).toB (v_call 8 (av_cons (v_var 3) av_nil)).toB)))).t (ss_one (s_ret v_bl)) ss_nil)))))))))))))))))
  (ss_one (s_ret v_bl))))⟩
def F_law : List D → W D := defW 1 21 B_law.1
end
end P92

set_option Elab.async false
set_option linter.all false
set_option maxRecDepth 100000
set_option maxHeartbeats 1000000
namespace P92
open PySem PySem.Spec PyProof.Rows L2 PW
section
local macro_rules | `(tactic| array_get_dec) => `(tactic| simp only [seqW, W.run_bind, W.run_pure, W.run_need, W.run_fail, W.run_fa, W.run_ite, W.pure_bind, W.fail_bind, W.bind_assoc, W.ite_bind, W.some?_some, getV_zero, getV_succ, startE, List.length_cons, List.length_nil, List.map_cons, List.map_nil, List.cons_append, List.nil_append, List.replicate, List.set_cons_zero, List.set_cons_succ, D.eq_int, D.ne_int, D.add_int, D.add_lst, D.add_tup, D.sub_int, D.mul_int, D.mul_lst, D.fdiv_int, D.mod_int, D.lt_int, D.le_int, D.gt_int, D.ge_int, D.tr_bl, D.truth_bl, D.int1_int, D.int1_bl, D.asInt_int, D.slice_lst, D.slice_tup, D.ix_lst, D.ix_tup, D.bagI_bag, D.bagC_bag, D.bagSet_bag, D.bagAdd_int, D.isBag_bag, D.len_lst, D.len_tup, D.min_int, D.max_int, D.abs_int, D.neg_int, D.tuple_lst, D.tuple_tup, D.iter_lst, D.iter_tup, D.items_lst, D.items_tup, D.rev_lst, atI_zero, atI_one, atI_two, atI_three, atI_four, atI_neg1, setAll_nil, setAll_cons, Tgt.set_nm, Tgt.set_tp, fin_rt, fin_nx, decide_eq_true_eq, Bool.false_eq_true, if_true, if_false])
theorem cmul_of {i j : Int} (h : 0 ≤ j ∧ j < 1073741824) : CMul i j := .inr ⟨by omega, by omega⟩
theorem cmul_ofL {i j : Int} (h : 0 ≤ i ∧ i < 1073741824) : CMul i j := .inl ⟨by omega, by omega⟩
theorem cmul_ofM {i j : Int} : CMul (i % 1000000007) j := .inl ⟨by omega, by omega⟩
/-- behind the stirring -/
theorem take_tail {n : Int} (hn : 1 ≤ n ∧ n < 1073741824) {Q : D → Prop} (h : ∀ k : Int, 0 ≤ k ∧ k < n → Q (.int k)) (i : Int) (hi : binv 0 i) :
    if 0 < i then ∀ (i : Int), binv 0 i → 0 < n ∧ ∀ (i_2 : Int), binv 0 i_2 → CDiv i_2 n ∧ binv 0 (i_2 / n) ∧ Q (.int (i % n))
    else ∀ (i : Int), binv 1 i → CMul (i + 1) 39373 ∧ 0 < (1000000007 : Int) ∧ CMul ((i + 1) * 39373 % 1000000007) ((i + 1) * 39373 % 1000000007) ∧ 0 < (998244353 : Int) ∧ CMul ((i + 1) * 39373 % 1000000007 * ((i + 1) * 39373 % 1000000007) % 998244353) 30011 ∧ 0 < (998244353 : Int) ∧
      CDiv ((i + 1) * 39373 % 1000000007 * ((i + 1) * 39373 % 1000000007) % 998244353 * 30011 % 998244353) 7 ∧ 0 < n ∧ Q (.int (((i + 1) * 39373 % 1000000007 * ((i + 1) * 39373 % 1000000007) % 998244353 * 30011 % 998244353) / 7 % n)) := by
  split
  · intro j hj
    refine ⟨by omega, fun k hk => ⟨⟨by omega, hn.2⟩, ⟨Int.ediv_nonneg hk.1 (by omega), fun e => by omega⟩, h _ ⟨Int.emod_nonneg _ (by omega), Int.emod_lt_of_pos _ (by omega)⟩⟩⟩
  · intro j hj
    exact ⟨cmul_of (by decide), by decide, cmul_ofM, by decide, cmul_of (by decide), by decide, ⟨by decide, by decide⟩, by omega, h _ ⟨Int.emod_nonneg _ (by omega), Int.emod_lt_of_pos _ (by omega)⟩⟩
theorem take_ok {n : Int} (hn : 1 ≤ n ∧ n < 1073741824) {Q : D → Prop} (h : ∀ k : Int, 0 ≤ k ∧ k < n → Q (.int k)) : (G__law_take [.bag, .int n]).run Q := by
  unfold G__law_take defW B__law_take
  array_get_dec
  refine ⟨True.intro, fun i hi => ?_⟩
  split
  · intro cs hcs k hk
    refine ⟨by unfold sizeLine; omega, ?_, ?_⟩
    · unfold cutL sizeLine
      rw [List.length_take, List.length_drop, List.length_map]
      have := hcs.2
      omega
    · obtain ⟨x, hx, e⟩ : ∃ x : Int, 0 ≤ x ∧ atI (cutL (List.map D.int cs) (some k) none ++ [D.int 0]) 0 = some (.int x) := by
        rw [atI_nn _ (by decide)]
        cases q : cutL (List.map D.int cs) (some k) none with
        | nil => exact ⟨0, by decide, rfl⟩
        | cons d ds =>
          have hm : d ∈ cutL (List.map D.int cs) (some k) none := by rw [q]; exact List.mem_cons_self
          have hm2 : d ∈ cs.map D.int := List.mem_of_mem_drop (List.mem_of_mem_take hm)
          obtain ⟨x, hx, rfl⟩ := List.mem_map.mp hm2
          exact ⟨x, hcs.1 x hx, rfl⟩
      rw [e]
      array_get_dec
      refine ⟨by omega, ?_⟩
      split
      · refine ⟨⟨hx, fun e => by omega⟩, fun j hj => ⟨cmul_of (by decide), by decide, fun l hl => ⟨cmul_ofL (by decide), by decide, ⟨Int.emod_nonneg _ (by omega), fun _ => by omega⟩, ?_⟩⟩⟩
        exact take_tail hn h
      · refine fun j hj => ⟨cmul_of (by decide), by decide, fun l hl => ⟨cmul_ofL (by decide), by decide, ⟨Int.emod_nonneg _ (by omega), fun _ => by omega⟩, ?_⟩⟩
        exact take_tail hn h
  · exact take_tail hn h
theorem take_ref : ∀ (ds : List D) (Q : D → Prop), (F__law_take ds).run Q → (G__law_take ds).run Q := by
  intro ds Q h
  unfold F__law_take at h
  split at h
  · obtain ⟨hn, h⟩ := h
    exact take_ok hn h
  · exact (show False from h).elim
theorem bag_ref : ∀ (ds : List D) (Q : D → Prop), (F__law_bag ds).run Q → (G__law_bag ds).run Q := by
  intro ds Q h
  unfold F__law_bag at h
  split at h
  · unfold G__law_bag defW B__law_bag
    array_get_dec
    refine ⟨True.intro, ?_⟩
    unfold lcW
    array_get_dec
    show (D.scr63 .scr).run _
    unfold D.scr63
    array_get_dec
    intro ns hl
    show (compW (.nm 1) (fun x => W.pure true) _ (ns.map D.int) [some D.scr, none] []).run _
    rw [comp_nm ns D.int (fun _ => true) (fun i => .int (if i < 0 then -i else i)) (fun _ _ => rfl) (fun _ _ _ => rfl), List.filter_eq_self.mpr fun _ _ => rfl]
    array_get_dec
    unfold D.mkBag
    have e : D.ints (ns.map fun i => D.int (if i < 0 then -i else i)) = some (ns.map fun i : Int => if i < 0 then -i else i) := by
      induction ns with
      | nil => rfl
      | cons n ns ih => rw [List.map_cons, List.map_cons, D.ints, ih (by rw [List.length_cons] at hl; omega)]; rfl
    show ((W.some? (D.ints (ns.map fun i => D.int (if i < 0 then -i else i)))).bind _).run _
    rw [e]
    array_get_dec
    refine ⟨⟨by decide, by decide, by decide, ?_, by rw [List.length_map]; exact hl⟩, h⟩
    intro x hx
    obtain ⟨y, _, rfl⟩ := List.mem_map.mp hx
    split <;> omega
  · exact (show False from h).elim
end
end P92

set_option Elab.async false
set_option linter.all false
set_option maxRecDepth 100000
set_option maxHeartbeats 1000000
namespace P92
open PySem PySem.Spec PyProof.Rows L2 PW Cod
section
local macro_rules | `(tactic| array_get_dec) => `(tactic| simp only [W.need_len, W.need_len1, W.need_len2, W.need_len3, W.need_len4, W.need_sz0, W.need_sz1, W.need_sz2, W.need_sz3, W.need_sz4, W.need_sz5, forW_nil, forW_cons, Bool.true_and, Bool.not_true, Bool.not_false, wipeE, W.bind_pure, W.need_T, D.asLst_lst, seqW, W.run_bind, W.run_pure, W.run_need, W.run_fail, W.run_fa, W.run_ite, W.pure_bind, W.fail_bind, W.bind_assoc, W.ite_bind, W.some?_some, getV_zero, getV_succ, startE, List.length_cons, List.length_nil, List.map_cons, List.map_nil, List.cons_append, List.nil_append, List.replicate, List.set_cons_zero, List.set_cons_succ, D.eq_int, D.ne_int, D.add_int, D.add_lst, D.add_tup, D.sub_int, D.mul_int, D.mul_0, D.mul_1, D.mul_one, D.fdiv_int, D.mod_int, D.lt_int, D.le_int, D.gt_int, D.ge_int, D.tr_bl, D.truth_bl, D.int1_int, D.int1_bl, D.asInt_int, D.slice_lst, D.slice_tup, D.ix_lst, D.ix_tup, D.bagI_bag, D.bagC_bag, D.bagSet_bag, D.bagAdd_int, D.isBag_bag, D.len_lst, D.len_tup, D.min_int, D.max_int, D.abs_int, D.neg_int, D.tuple_lst, D.tuple_tup, D.iter_lst, D.iter_tup, D.items_lst, D.items_tup, D.rev_lst, atI_zero, atI_one, atI_two, atI_three, atI_four, atI_neg1, setAll_nil, setAll_cons, Tgt.set_nm, Tgt.set_tp, fin_rt, fin_nx, W.ite_and, W.ite_or, W.ite_andD, W.ite_orD, Bool.false_eq_true, if_true, if_false])
/-! ### tables -/
abbrev Tb := Int × List (Int × Int)
def Tb.e (T : Tb) : D := .tup [.int T.1, .tup (T.2.map enc)]
structure Tb.Ok (T : Tb) : Prop where
  n0 : 0 ≤ T.1
  n6 : T.1 ≤ 6
  nd : T.2.Nodup
  mem : ∀ c ∈ T.2, 0 ≤ c.1 ∧ c.1 < c.2 ∧ c.2 < T.1
def Tb.kn (T : Tb) (a b : Int) : Bool := decide ((min a b, max a b) ∈ T.2)
theorem minI (a b : Int) : (if b < a then b else a) = min a b := by
  by_cases h : b < a <;> simp [h] <;> omega
theorem maxI (a b : Int) : (if b > a then b else a) = max a b := by
  by_cases h : b > a <;> simp [h] <;> omega
theorem law_know (T : Tb) (a b : Int) : F__law_know [T.e, .int a, .int b] = W.pure (.bl (T.kn a b)) := by
  unfold F__law_know defW B__law_know Tb.e
  array_get_dec
  rw [minI, maxI, show D.tup [D.int (min a b), D.int (max a b)] = enc (min a b, max a b) from rfl, D.in_tup]
  rfl
theorem is_known (T : Tb) (a b : Int) : F_is_known [T.e, .int a, .int b] = W.pure (.bl (T.kn a b)) := by
  unfold F_is_known defW B_is_known Tb.e
  array_get_dec
  rw [minI, maxI, show D.tup [D.int (min a b), D.int (max a b)] = enc (min a b, max a b) from rfl, D.in_tup]
  rfl
theorem people (T : Tb) : F_people [T.e] = W.pure (.int T.1) := by
  unfold F_people defW B_people Tb.e
  array_get_dec
theorem cpl_len (n : Int) (h6 : n ≤ 6) : (cpl n).length ≤ 36 := by
  unfold cpl
  rw [List.length_flatMap]
  have : ∀ xs : List Int, ((xs.map fun a => ((rngI (a + 1) n).map fun b => (a, b)).length)).sum ≤ xs.length * 6 ∨ ∃ x ∈ xs, x < 0 := by
    intro xs
    induction xs with
    | nil => exact .inl (by simp)
    | cons x xs ih =>
      by_cases hx : x < 0
      · exact .inr ⟨x, List.mem_cons_self, hx⟩
      · rcases ih with ih | ⟨y, hy, hy2⟩
        · refine .inl ?_
          rw [List.map_cons, List.sum_cons, List.length_cons, List.length_map, rngI_length]
          omega
        · exact .inr ⟨y, List.mem_cons_of_mem _ hy, hy2⟩
  rcases this (rngI 0 n) with h | ⟨x, hx, h⟩
  · rw [rngI_length] at h
    omega
  · have := mem_rngI.mp hx
    omega
theorem law_couples (n : Int) (h0 : 0 ≤ n) (h6 : n ≤ 6) : F__law_couples [.int n] = W.pure (.lst ((cpl n).map enc)) := by
  unfold F__law_couples defW B__law_couples
  array_get_dec
  rw [D.rng1_int ⟨by omega, by omega⟩]
  array_get_dec
  refine for_bind (e := enc) (fun done ρ => ∃ o p, ρ = [some (.int n), some (.lst ((done.flatMap fun a => (rngI (a + 1) n).map fun b => (a, b)).map enc)), o, p]) (rngI 0 n) [some (.int n), some (.lst []), none, none] ⟨none, none, rfl⟩ (fun done x rest ρ hx ⟨o, p, hρ⟩ => by
    subst hρ
    have hm : x ∈ rngI 0 n := by rw [← hx]; simp
    have hm := mem_rngI.mp hm
    have hd : ((done.flatMap fun a => (rngI (a + 1) n).map fun b => (a, b)).map (enc (α := Int × Int))).length ≤ 36 := by
      have h36 := cpl_len n h6
      unfold cpl at h36
      rw [← hx, List.flatMap_append, List.length_append] at h36
      rw [List.length_map]
      omega
    rw [List.length_map] at hd
    refine ⟨[some (.int n), some (.lst (((done ++ [x]).flatMap fun a => (rngI (a + 1) n).map fun b => (a, b)).map enc)), some (.int x), p], .inl ?_, some (.int x), p, rfl⟩
    array_get_dec
    rw [enc_int, lc_map (rngI (x + 1) n) enc (fun b => enc (x, b)) (by array_get_dec; rw [D.rng2_int (by omega) (by omega) (by omega) (by omega) (by omega)]) rfl (fun y _ => rfl)]
    array_get_dec
    rw [W.need_size (by rw [List.length_map, List.length_map, rngI_length]; omega), List.flatMap_append, List.flatMap_cons, List.flatMap_nil, List.append_nil, List.map_append, List.map_map]
    rfl) (fun ρ' ⟨o, p, e⟩ => by
      subst e
      array_get_dec
      rfl)
theorem all_couples (n : Int) (h0 : 0 ≤ n) (h6 : n ≤ 6) : F_all_couples [.int n] = W.pure (.lst ((cpl n).map enc)) := by
  unfold F_all_couples defW B_all_couples
  array_get_dec
  rw [lc2_nm (rngI 0 n) enc (fun a => rngI (a + 1) n) enc (fun _ _ => true) (fun a b => enc (a, b)) (by array_get_dec; rw [D.rng1_int ⟨by omega, by omega⟩]) rfl (fun x hx => by
      have := mem_rngI.mp hx
      rw [enc_int]
      array_get_dec
      rw [D.rng2_int (by omega) (by omega) (by omega) (by omega) (by omega)]) (fun a => [some (.int n), some (.int a), none]) (fun _ _ => rfl) (fun _ _ _ _ => rfl) (fun _ _ _ _ _ => rfl) (by
        have h36 := cpl_len n h6
        unfold cpl at h36
        rw [List.length_flatMap] at h36
        refine size_le ?_
        simp only [List.length_map] at h36 ⊢
        omega)]
  unfold cpl
  rw [List.map_flatMap]
  simp only [List.filter_eq_self.mpr fun _ _ => rfl, List.map_map]
  rfl
/-! ### lots -/
def Tb.full (T : Tb) (l : List Int) : Bool := l.all fun a => l.all fun b => decide (a = b) || T.kn a b
def Tb.empt (T : Tb) (l : List Int) : Bool := l.all fun a => l.all fun b => decide (a = b) || !T.kn a b
def Tb.oth (T : Tb) (l : List Int) : List Int := (rngI 0 T.1).filter fun x => !decide (x ∈ l)
def Tb.parts (T : Tb) (l : List Int) : Bool := T.full l && T.empt (T.oth l)
theorem law_others (T : Tb) (hT : T.Ok) (l : List Int) : F__law_others [T.e, enc l] = W.pure (enc (T.oth l)) := by
  have h0 := hT.n0
  have h6 := hT.n6
  unfold F__law_others defW B__law_others Tb.e
  array_get_dec
  rw [lc_nm (rngI 0 T.1) enc (fun x => !decide (x ∈ l)) enc (by array_get_dec; rw [D.rng1_int ⟨by omega, by omega⟩]) rfl (fun x _ => by
    array_get_dec
    rw [enc_list, D.notIn_tup]
    array_get_dec) (fun x _ _ => rfl)]
  array_get_dec
  rfl
theorem others (T : Tb) (hT : T.Ok) (l : List Int) : F_others [T.e, enc l] = W.pure (enc (T.oth l)) := by
  have h0 := hT.n0
  have h6 := hT.n6
  unfold F_others defW B_others
  array_get_dec
  rw [lc_nm (rngI 0 T.1) enc (fun x => !decide (x ∈ l)) enc (by array_get_dec; rw [people]; array_get_dec; rw [D.rng1_int ⟨by omega, by omega⟩]) rfl (fun x _ => by
    array_get_dec
    rw [enc_list, D.notIn_tup]
    array_get_dec) (fun x _ _ => rfl)]
  array_get_dec
  rfl
theorem is_full (T : Tb) (l : List Int) (hl : l.length ≤ 64) : F_is_full [T.e, enc l] = W.pure (.bl (T.full l)) := by
  unfold F_is_full defW B_is_full
  array_get_dec
  rw [lc2_nm l enc (fun _ => l) enc (fun a b => !decide (a = b)) (fun a b => .bl (T.kn a b)) rfl rfl (fun _ _ => rfl) (fun a => [some T.e, some (enc l), some (enc a), none]) (fun _ _ => rfl) (fun a _ b _ => by
    array_get_dec
    rw [enc_int, enc_int]
    array_get_dec) (fun a _ b _ _ => by
    array_get_dec
    rw [enc_int, enc_int, is_known]) (by
      have := sum_le_mul l (fun _ => l.length) 64 fun _ _ => hl
      exact size_le (Nat.le_trans this (by omega)))]
  array_get_dec
  have e : (l.flatMap fun a => (l.filter fun b => !decide (a = b)).map fun b => D.bl (T.kn a b)) = (l.flatMap fun a => (l.filter fun b => !decide (a = b)).map fun b => T.kn a b).map D.bl := by
    rw [List.map_flatMap]
    simp only [List.map_map]
    rfl
  rw [e, D.all_bl]
  congr 2
  unfold Tb.full
  rw [List.all_flatMap]
  refine List.all_congr rfl fun a => ?_
  rw [List.all_map, List.all_filter]
  refine List.all_congr rfl fun b => ?_
  simp
end
end P92

set_option Elab.async false
set_option linter.all false
set_option maxRecDepth 100000
set_option maxHeartbeats 1000000
namespace P92
open PySem PySem.Spec PyProof.Rows L2 PW Cod
section
local macro_rules | `(tactic| array_get_dec) => `(tactic| simp only [W.need_len, W.need_len1, W.need_len2, W.need_len3, W.need_len4, W.need_sz0, W.need_sz1, W.need_sz2, W.need_sz3, W.need_sz4, W.need_sz5, forW_nil, forW_cons, Bool.true_and, Bool.not_true, Bool.not_false, wipeE, W.bind_pure, W.need_T, D.asLst_lst, seqW, W.run_bind, W.run_pure, W.run_need, W.run_fail, W.run_fa, W.run_ite, W.pure_bind, W.fail_bind, W.bind_assoc, W.ite_bind, W.some?_some, getV_zero, getV_succ, startE, List.length_cons, List.length_nil, List.map_cons, List.map_nil, List.cons_append, List.nil_append, List.replicate, List.set_cons_zero, List.set_cons_succ, D.eq_int, D.ne_int, D.add_int, D.add_lst, D.add_tup, D.sub_int, D.mul_int, D.mul_0, D.mul_1, D.mul_one, D.fdiv_int, D.mod_int, D.lt_int, D.le_int, D.gt_int, D.ge_int, D.tr_bl, D.truth_bl, D.int1_int, D.int1_bl, D.asInt_int, D.slice_lst, D.slice_tup, D.ix_lst, D.ix_tup, D.bagI_bag, D.bagC_bag, D.bagSet_bag, D.bagAdd_int, D.isBag_bag, D.len_lst, D.len_tup, D.min_int, D.max_int, D.abs_int, D.neg_int, D.tuple_lst, D.tuple_tup, D.iter_lst, D.iter_tup, D.items_lst, D.items_tup, D.rev_lst, atI_zero, atI_one, atI_two, atI_three, atI_four, atI_neg1, setAll_nil, setAll_cons, Tgt.set_nm, Tgt.set_tp, fin_rt, fin_nx, W.ite_and, W.ite_or, W.ite_andD, W.ite_orD, Bool.false_eq_true, if_true, if_false])
theorem is_empty (T : Tb) (l : List Int) (hl : l.length ≤ 64) : F_is_empty [T.e, enc l] = W.pure (.bl (T.empt l)) := by
  unfold F_is_empty defW B_is_empty
  array_get_dec
  rw [lc2_nm l enc (fun _ => l) enc (fun a b => !decide (a = b)) (fun a b => .bl (T.kn a b)) rfl rfl (fun _ _ => rfl) (fun a => [some T.e, some (enc l), some (enc a), none]) (fun _ _ => rfl) (fun a _ b _ => by
    array_get_dec
    rw [enc_int, enc_int]
    array_get_dec) (fun a _ b _ _ => by
    array_get_dec
    rw [enc_int, enc_int, is_known]) (by
      have := sum_le_mul l (fun _ => l.length) 64 fun _ _ => hl
      exact size_le (Nat.le_trans this (by omega)))]
  array_get_dec
  have e : (l.flatMap fun a => (l.filter fun b => !decide (a = b)).map fun b => D.bl (T.kn a b)) = (l.flatMap fun a => (l.filter fun b => !decide (a = b)).map fun b => T.kn a b).map D.bl := by
    rw [List.map_flatMap]
    simp only [List.map_map]
    rfl
  rw [e, D.any_bl]
  array_get_dec
  congr 2
  unfold Tb.empt
  rw [List.any_flatMap, List.not_any_eq_all_not]
  refine List.all_congr rfl fun a => ?_
  rw [List.any_map, List.any_filter, List.not_any_eq_all_not]
  refine List.all_congr rfl fun b => ?_
  simp [Bool.not_and]
theorem oth_len (T : Tb) (hT : T.Ok) (l : List Int) : (T.oth l).length ≤ 6 := by
  have h0 := hT.n0
  have h6 := hT.n6
  unfold Tb.oth
  refine Nat.le_trans (List.length_filter_le _ _) ?_
  rw [rngI_length]
  omega
theorem does_part (T : Tb) (hT : T.Ok) (l : List Int) (hl : l.length ≤ 64) : F_does_part [T.e, enc l] = W.pure (.bl (T.parts l)) := by
  unfold F_does_part defW B_does_part
  array_get_dec
  rw [is_full T l hl]
  array_get_dec
  rw [others T hT]
  array_get_dec
  rw [is_empty T _ (Nat.le_trans (oth_len T hT l) (by decide))]
  array_get_dec
  rfl
/-- a < b known: as a couple -/
theorem kn_lt {T : Tb} {a b : Int} (h : a < b) : T.kn a b = decide ((a, b) ∈ T.2) := by
  unfold Tb.kn
  rw [Int.min_eq_left (by omega), Int.max_eq_right (by omega)]
theorem kn_symm (T : Tb) (a b : Int) : T.kn a b = T.kn b a := by
  unfold Tb.kn
  rw [Int.min_comm, Int.max_comm]
theorem law_full (T : Tb) (hT : T.Ok) (l : List Int) (hl : ∀ x ∈ l, 0 ≤ x ∧ x < T.1) : F__law_full [T.e, enc l] = W.pure (.bl (T.full l)) := by
  have h0 := hT.n0
  have h6 := hT.n6
  unfold F__law_full defW B__law_full Tb.e
  array_get_dec
  rw [lc_tp (cpl T.1) (fun c => enc c.1) (fun c => enc c.2) (fun c => decide (c.1 ∈ l) && (decide (c.2 ∈ l) && !decide (c ∈ T.2))) (fun _ => enc (1 : Int)) (by
      array_get_dec
      rw [law_couples _ h0 h6]
      array_get_dec
      rfl) rfl (fun c _ => by
      array_get_dec
      rw [enc_list, D.in_tup, D.in_tup, show D.tup [enc c.1, enc c.2] = enc c from rfl, D.notIn_tup]
      array_get_dec) (fun c _ _ => rfl)]
  array_get_dec
  rw [D.eq_nil_map _ fun _ => (1 : Int)]
  congr 2
  rw [Bool.eq_iff_iff, decide_eq_true_eq, List.filter_eq_nil_iff]
  unfold Tb.full
  rw [List.all_eq_true]
  constructor
  · intro h a ha
    rw [List.all_eq_true]
    intro b hb
    rw [Bool.or_eq_true, decide_eq_true_eq]
    by_cases hab : a = b
    · exact .inl hab
    · refine .inr ?_
      have key : ∀ a b, a ∈ l → b ∈ l → a < b → T.kn a b = true := fun a b ha hb hlt => by
        have h1 := h (a, b) (mem_cpl.mpr ⟨(hl a ha).1, hlt, (hl b hb).2⟩)
        rw [kn_lt hlt, decide_eq_true_eq]
        simpa [ha, hb] using h1
      rcases Int.lt_or_gt_of_ne hab with hlt | hlt
      · exact key a b ha hb hlt
      · rw [kn_symm]
        exact key b a hb ha hlt
  · intro h c hc
    have hc := mem_cpl.mp hc
    intro hh
    simp only [Bool.and_eq_true, decide_eq_true_eq, Bool.not_eq_true', decide_eq_false_iff_not] at hh
    obtain ⟨h1, h2, h3⟩ := hh
    have h4 := List.all_eq_true.mp (h c.1 h1) c.2 h2
    rw [Bool.or_eq_true, decide_eq_true_eq, kn_lt hc.2.1, decide_eq_true_eq] at h4
    rcases h4 with h4 | h4
    · omega
    · exact h3 h4
theorem kn_ok {T : Tb} (hT : T.Ok) {a b : Int} (h : T.kn a b = true) : 0 ≤ a ∧ a < T.1 ∧ 0 ≤ b ∧ b < T.1 ∧ a ≠ b := by
  unfold Tb.kn at h
  have h := hT.mem _ (of_decide_eq_true h)
  simp only at h
  omega
theorem law_empty (T : Tb) (hT : T.Ok) (l : List Int) : F__law_empty [T.e, enc l] = W.pure (.bl (T.empt l)) := by
  unfold F__law_empty defW B__law_empty Tb.e
  array_get_dec
  rw [lc_tp T.2 (fun c => enc c.1) (fun c => enc c.2) (fun c => decide (c.1 ∈ l) && decide (c.2 ∈ l)) (fun _ => enc (1 : Int)) (by
      array_get_dec
      rfl) rfl (fun c _ => by
      array_get_dec
      rw [enc_list, D.in_tup, D.in_tup]
      array_get_dec) (fun c _ _ => rfl)]
  array_get_dec
  rw [D.eq_nil_map _ fun _ => (1 : Int)]
  congr 2
  rw [Bool.eq_iff_iff, decide_eq_true_eq, List.filter_eq_nil_iff]
  unfold Tb.empt
  rw [List.all_eq_true]
  constructor
  · intro h a ha
    rw [List.all_eq_true]
    intro b hb
    rw [Bool.or_eq_true, decide_eq_true_eq, Bool.not_eq_true']
    by_cases hab : a = b
    · exact .inl hab
    · refine .inr ?_
      have key : ∀ a b, a ∈ l → b ∈ l → a < b → T.kn a b = false := fun a b ha hb hlt => by
        rw [kn_lt hlt, decide_eq_false_iff_not]
        intro hm
        exact h (a, b) hm (by simp [ha, hb])
      rcases Int.lt_or_gt_of_ne hab with hlt | hlt
      · exact key a b ha hb hlt
      · rw [kn_symm]
        exact key b a hb ha hlt
  · intro h c hc hh
    have hm := hT.mem c hc
    simp only [Bool.and_eq_true, decide_eq_true_eq] at hh
    have h4 := List.all_eq_true.mp (h c.1 hh.1) c.2 hh.2
    rw [Bool.or_eq_true, decide_eq_true_eq, kn_lt hm.2.1, Bool.not_eq_true', decide_eq_false_iff_not] at h4
    rcases h4 with h4 | h4
    · omega
    · exact h4 hc
theorem law_parts (T : Tb) (hT : T.Ok) (l : List Int) (hl : ∀ x ∈ l, 0 ≤ x ∧ x < T.1) : F__law_parts [T.e, enc l] = W.pure (.bl (T.parts l)) := by
  unfold F__law_parts defW B__law_parts
  array_get_dec
  rw [law_full T hT l hl]
  array_get_dec
  rw [law_others T hT]
  array_get_dec
  rw [law_empty T hT]
  array_get_dec
  rfl
/-! all the lots, as they are found -/
def lots0 (xs : List Int) : List (List Int) := xs.foldl (fun acc one => acc ++ acc.map (· ++ [one])) [[]]
theorem lots0_snoc (xs : List Int) (x : Int) : lots0 (xs ++ [x]) = lots0 xs ++ (lots0 xs).map (· ++ [x]) := by
  unfold lots0
  rw [List.foldl_append]
  rfl
theorem snoc_ind {α : Type} {P : List α → Prop} (h0 : P []) (hs : ∀ xs x, P xs → P (xs ++ [x])) (xs : List α) : P xs := by
  have h : ∀ ys : List α, P ys.reverse := fun ys => by
    induction ys with
    | nil => exact h0
    | cons y ys ih => rw [List.reverse_cons]; exact hs _ _ ih
  have := h xs.reverse
  rwa [List.reverse_reverse] at this
theorem lots0_len (xs : List Int) : (lots0 xs).length = 2 ^ xs.length := by
  induction xs using snoc_ind with
  | h0 => rfl
  | hs xs x ih =>
    rw [lots0_snoc, List.length_append, List.length_map, ih, List.length_append, List.length_cons, List.length_nil, Nat.pow_succ]
    omega
theorem mem_lots0 (xs : List Int) : ∀ l, l ∈ lots0 xs ↔ l.Sublist xs := by
  induction xs using snoc_ind with
  | h0 => intro l; simp [lots0]
  | hs xs x ih =>
    intro l
    rw [lots0_snoc, List.mem_append, List.mem_map]
    constructor
    · rintro (h | ⟨m, h, rfl⟩)
      · exact ((ih l).mp h).trans (List.sublist_append_left _ _)
      · exact ((ih m).mp h).append (List.Sublist.refl _)
    · intro h
      obtain ⟨l1, l2, rfl, h1, h2⟩ := List.sublist_append_iff.mp h
      cases l2 with
      | nil => exact .inl (by rw [List.append_nil]; exact (ih _).mpr h1)
      | cons y ys =>
        have e := h2.length_le
        have hy : ys = [] := by
          cases ys with
          | nil => rfl
          | cons _ _ => simp at e
        subst hy
        have : y = x := by simpa using h2.subset (List.mem_cons_self (a := y) (l := []))
        subst this
        exact .inr ⟨l1, (ih _).mpr h1, rfl⟩
theorem lots_64 {xs : List Int} (h : xs.length ≤ 6) : (lots0 xs).length ≤ 64 := by
  rw [lots0_len]
  exact Nat.pow_le_pow_right (n := 2) (by decide) h
theorem law_lots (n : Int) (h0 : 0 ≤ n) (h6 : n ≤ 6) : F__law_lots [.int n] = W.pure (.lst ((csort (lots0 (rngI 0 n))).map enc)) := by
  unfold F__law_lots defW B__law_lots
  array_get_dec
  rw [D.rng1_int ⟨by omega, by omega⟩]
  array_get_dec
  refine for_bind (e := enc) (fun done ρ => ∃ o p, ρ = [some (.int n), some (.lst ((lots0 done).map enc)), o, p]) (rngI 0 n) _ ⟨none, none, rfl⟩ (fun done x rest ρ hx ⟨o, p, hρ⟩ => by
    subst hρ
    have hl : done.length ≤ 6 := by
      have e := congrArg List.length hx
      rw [List.length_append, List.length_cons, rngI_length] at e
      omega
    have h64 := lots_64 hl
    refine ⟨[some (.int n), some (.lst ((lots0 (done ++ [x])).map enc)), some (.int x), p], .inl ?_, some (.int x), p, rfl⟩
    array_get_dec
    rw [enc_int, lc_map (lots0 done) enc (fun l => enc (l ++ [x])) rfl rfl (fun l hm => by
      have hs := ((mem_lots0 done l).mp hm).length_le
      array_get_dec
      rw [enc_list]
      array_get_dec
      rw [W.need_size (by rw [List.length_map]; omega), enc_list, List.map_append]
      rfl)]
    array_get_dec
    rw [W.need_size (by rw [List.length_map, List.length_map]; omega), lots0_snoc, List.map_append, List.map_map]
    rfl) (fun ρ' ⟨o, p, e⟩ => by
      subst e
      array_get_dec
      have h64 := lots_64 (xs := rngI 0 n) (by rw [rngI_length]; omega)
      rw [D.sorted_lst _ (size_le (by omega))])
theorem all_lots (T : Tb) (hT : T.Ok) : F_all_lots [T.e] = W.pure (.lst (((csort ((lots0 (rngI 0 T.1)).map fun l => ((l.length : Int), l))).map (·.2)).map enc)) := by
  have h0 := hT.n0
  have h6 := hT.n6
  unfold F_all_lots defW B_all_lots
  array_get_dec
  rw [people]
  array_get_dec
  rw [D.rng1_int ⟨by omega, by omega⟩]
  array_get_dec
  refine for_bind (e := enc) (fun done ρ => ∃ o p q, ρ = [some T.e, some (.lst ((lots0 done).map enc)), o, p, q]) (rngI 0 T.1) _ ⟨none, none, none, rfl⟩ (fun done x rest ρ hx ⟨o, p, q, hρ⟩ => by
    subst hρ
    have hl : done.length ≤ 6 := by
      have e := congrArg List.length hx
      rw [List.length_append, List.length_cons, rngI_length] at e
      omega
    have h64 := lots_64 hl
    refine ⟨[some T.e, some (.lst ((lots0 (done ++ [x])).map enc)), some (.int x), p, q], .inl ?_, some (.int x), p, q, rfl⟩
    array_get_dec
    rw [enc_int, lc_map (lots0 done) enc (fun l => enc (l ++ [x])) rfl rfl (fun l hm => by
      have hs := ((mem_lots0 done l).mp hm).length_le
      array_get_dec
      rw [enc_list]
      array_get_dec
      rw [W.need_size (by rw [List.length_append, List.length_map, List.length_cons, List.length_nil]; omega), enc_list, List.map_append]
      rfl)]
    array_get_dec
    rw [W.need_size (by rw [List.length_map, List.length_map]; omega), lots0_snoc, List.map_append, List.map_map]
    rfl) (fun ρ' ⟨o, p, q, e⟩ => by
      subst e
      array_get_dec
      have h64 := lots_64 (xs := rngI 0 T.1) (by rw [rngI_length]; omega)
      rw [lc_tpmap (csort ((lots0 (rngI 0 T.1)).map fun l => ((l.length : Int), l))) (fun x => enc x.1) (fun x => enc x.2) (fun x => enc x.2) (by
          rw [lc_map (lots0 (rngI 0 T.1)) enc (fun l => enc ((l.length : Int), l)) rfl rfl (fun l _ => by
            array_get_dec
            rw [enc_list]
            array_get_dec
            rw [List.length_map]
            rfl)]
          array_get_dec
          rw [D.sorted_map (lots0 (rngI 0 T.1)) (fun l : List Int => ((l.length : Int), l)) (by omega)]
          array_get_dec
          rfl) rfl (fun x _ => rfl), List.map_map]
      rfl)
theorem law_partings (T : Tb) (hT : T.Ok) : F__law_partings [T.e] = W.pure (.lst (((csort (lots0 (rngI 0 T.1))).filter T.parts).map enc)) := by
  have h0 := hT.n0
  have h6 := hT.n6
  unfold F__law_partings defW B__law_partings
  array_get_dec
  rw [lc_nm (csort (lots0 (rngI 0 T.1))) enc T.parts enc (by
      unfold Tb.e
      array_get_dec
      rw [law_lots _ h0 h6]
      array_get_dec) rfl (fun l hl => by
      array_get_dec
      rw [law_parts T hT l fun x hx => mem_rngI.mp (((mem_lots0 _ _).mp (mem_csort.mp hl)).subset hx)]
      array_get_dec) (fun x _ _ => rfl)]
theorem nub_lots (T : Tb) : (csort ((csort ((lots0 (rngI 0 T.1)).map fun l => ((l.length : Int), l))).map (·.2) |>.filter T.parts)) = (csort (lots0 (rngI 0 T.1))).filter T.parts := by
  refine csort_eq ?_ ((csort_pairwise _).filter _)
  refine List.Perm.filter _ ?_
  refine ((csort_perm _).map _).trans ?_
  rw [List.map_map]
  have e : ((fun x : Int × List Int => x.2) ∘ fun l : List Int => ((l.length : Int), l)) = _root_.id := rfl
  rw [e, List.map_id]
  exact (csort_perm _).symm
def Tb.every (T : Tb) : List (List Int) := (csort (lots0 (rngI 0 T.1))).filter T.parts
theorem every_len (T : Tb) (hT : T.Ok) : T.every.length ≤ 64 := by
  have h0 := hT.n0
  have h6 := hT.n6
  refine Nat.le_trans (List.length_filter_le _ _) ?_
  rw [csort_length]
  exact lots_64 (by rw [rngI_length]; omega)
theorem partings (T : Tb) (hT : T.Ok) : F_partings [T.e] = W.pure (enc T.every) := by
  have h0 := hT.n0
  have h6 := hT.n6
  have h64 := lots_64 (xs := rngI 0 T.1) (by rw [rngI_length]; omega)
  unfold F_partings defW B_partings
  array_get_dec
  rw [lc_nm ((csort ((lots0 (rngI 0 T.1)).map fun l => ((l.length : Int), l))).map (·.2)) enc T.parts enc (by
      array_get_dec
      rw [all_lots T hT]
      array_get_dec) rfl (fun l hl => by
      have hm : l ∈ lots0 (rngI 0 T.1) := by
        obtain ⟨x, hx, rfl⟩ := List.mem_map.mp hl
        obtain ⟨y, hy, rfl⟩ := List.mem_map.mp (mem_csort.mp hx)
        exact hy
      have hs := ((mem_lots0 _ _).mp hm).length_le
      rw [rngI_length] at hs
      array_get_dec
      rw [does_part T hT l (by omega)]
      array_get_dec) (fun x _ _ => rfl)]
  array_get_dec
  rw [D.sorted_lst _ (size_le (by
    refine Nat.le_trans (List.length_filter_le _ _) ?_
    rw [List.length_map, csort_length, List.length_map]
    omega))]
  array_get_dec
  rw [nub_lots T]
  rfl
theorem partings_many (T : Tb) (hT : T.Ok) : F_partings_many [T.e] = W.pure (.int T.every.length) := by
  unfold F_partings_many defW B_partings_many
  array_get_dec
  rw [partings T hT, enc_list]
  array_get_dec
  rw [List.length_map]
/-! ### counts -/
def Tb.cnt (T : Tb) (v : Int) : Nat := ((rngI 0 T.1).filter (T.kn v)).length
def Tb.counts (T : Tb) : List Int := (rngI 0 T.1).map fun v => (T.cnt v : Int)
theorem is_integer (i : Int) : F_is_integer [.int i] = W.pure (.bl true) := by
  unfold F_is_integer defW B_is_integer
  array_get_dec
  rfl
theorem is_within (i a b : Int) : F_is_within [.int i, .int a, .int b] = W.pure (.bl (decide (a ≤ i) && decide (i ≤ b))) := by
  unfold F_is_within defW B_is_within
  array_get_dec
  rw [is_integer]
  array_get_dec
theorem need_people1 (T : Tb) (v : Int) (h : 0 ≤ v ∧ v < T.1) : F_need_people [T.e, .int v] = W.pure .non := by
  unfold F_need_people defVW B_need_people
  array_get_dec
  unfold Tb.e
  array_get_dec
  rw [is_within, W.need_bind (by decide)]
  array_get_dec
  have e : (decide (0 ≤ v) && decide (v ≤ T.1 - 1)) = true := by
    rw [Bool.and_eq_true, decide_eq_true_eq, decide_eq_true_eq]
    omega
  rw [e]
  array_get_dec
theorem known_by (T : Tb) (hT : T.Ok) (v : Int) (h : 0 ≤ v ∧ v < T.1) : F_known_by [T.e, .int v] = W.pure (enc ((rngI 0 T.1).filter (T.kn v))) := by
  have h0 := hT.n0
  have h6 := hT.n6
  unfold F_known_by defW B_known_by
  array_get_dec
  rw [need_people1 T v h]
  array_get_dec
  rw [lc_nm (rngI 0 T.1) enc (T.kn v) enc (by
      unfold Tb.e
      array_get_dec
      rw [D.rng1_int ⟨by omega, by omega⟩]) rfl (fun x _ => by
      array_get_dec
      rw [enc_int, is_known]
      array_get_dec) (fun x _ _ => rfl)]
  array_get_dec
  rfl
theorem counts (T : Tb) (hT : T.Ok) : F_counts [T.e] = W.pure (enc T.counts) := by
  have h0 := hT.n0
  have h6 := hT.n6
  unfold F_counts defW B_counts
  array_get_dec
  rw [lc_map (rngI 0 T.1) enc (fun v => .int (T.cnt v : Int)) (by
      array_get_dec
      rw [people]
      array_get_dec
      rw [D.rng1_int ⟨by omega, by omega⟩]) rfl (fun x hx => by
      array_get_dec
      rw [enc_int, known_by T hT x (mem_rngI.mp hx), enc_list]
      array_get_dec
      rw [List.length_map]
      rfl)]
  array_get_dec
  unfold Tb.counts
  rw [enc_list, List.map_map]
  rfl
end
end P92

set_option Elab.async false
set_option linter.all false
set_option maxRecDepth 100000
set_option maxHeartbeats 1000000
namespace P92
open PySem PySem.Spec PyProof.Rows L2 PW Cod
section
local macro_rules | `(tactic| array_get_dec) => `(tactic| simp only [W.need_len, W.need_len1, W.need_len2, W.need_len3, W.need_len4, W.need_sz0, W.need_sz1, W.need_sz2, W.need_sz3, W.need_sz4, W.need_sz5, forW_nil, forW_cons, Bool.true_and, Bool.not_true, Bool.not_false, wipeE, W.bind_pure, W.need_T, D.asLst_lst, seqW, W.run_bind, W.run_pure, W.run_need, W.run_fail, W.run_fa, W.run_ite, W.pure_bind, W.fail_bind, W.bind_assoc, W.ite_bind, W.some?_some, getV_zero, getV_succ, startE, List.length_cons, List.length_nil, List.map_cons, List.map_nil, List.cons_append, List.nil_append, List.replicate, List.set_cons_zero, List.set_cons_succ, D.eq_int, D.ne_int, D.add_int, D.add_lst, D.add_tup, D.sub_int, D.mul_int, D.mul_0, D.mul_1, D.mul_one, D.fdiv_int, D.mod_int, D.lt_int, D.le_int, D.gt_int, D.ge_int, D.tr_bl, D.truth_bl, D.int1_int, D.int1_bl, D.asInt_int, D.slice_lst, D.slice_tup, D.ix_lst, D.ix_tup, D.bagI_bag, D.bagC_bag, D.bagSet_bag, D.bagAdd_int, D.isBag_bag, D.len_lst, D.len_tup, D.min_int, D.max_int, D.abs_int, D.neg_int, D.tuple_lst, D.tuple_tup, D.iter_lst, D.iter_tup, D.items_lst, D.items_tup, D.rev_lst, atI_zero, atI_one, atI_two, atI_three, atI_four, atI_neg1, setAll_nil, setAll_cons, Tgt.set_nm, Tgt.set_tp, fin_rt, fin_nx, W.ite_and, W.ite_or, W.ite_andD, W.ite_orD, Bool.false_eq_true, if_true, if_false])
theorem counts_len (T : Tb) (hT : T.Ok) : T.counts.length ≤ 6 := by
  have h0 := hT.n0
  have h6 := hT.n6
  unfold Tb.counts
  rw [List.length_map, rngI_length]
  omega
def Tb.ord (T : Tb) : List Int := (csort ((enumI T.counts).map fun p => (0 - p.2, p.1))).map (·.2)
theorem order_of (T : Tb) (hT : T.Ok) : F_order_of [T.e] = W.pure (enc T.ord) := by
  have hl := counts_len T hT
  unfold F_order_of defW B_order_of
  array_get_dec
  rw [counts T hT]
  array_get_dec
  rw [lc_tpmap (csort ((enumI T.counts).map fun p => (0 - p.2, p.1))) (fun x => enc x.1) (fun x => enc x.2) (fun x => enc x.2) (by
      rw [lc_tpmap (enumI T.counts) (fun x => enc x.1) (fun x => enc x.2) (fun p => enc (0 - p.2, p.1)) (by
          array_get_dec
          rw [enc_list, D.enum_tup]
          rfl) rfl (fun x _ => by
          array_get_dec
          rw [enc_int, enc_int]
          array_get_dec
          rfl)]
      array_get_dec
      rw [D.sorted_map (enumI T.counts) (fun p => (0 - p.2, p.1)) (by rw [enumI_length]; omega)]
      array_get_dec
      rfl) rfl (fun x _ => rfl)]
  array_get_dec
  unfold Tb.ord
  rw [enc_list, List.map_map]
  rfl
theorem ord_len (T : Tb) (hT : T.Ok) : T.ord.length ≤ 6 := by
  unfold Tb.ord
  rw [List.length_map, csort_length, List.length_map, enumI_length]
  exact counts_len T hT
theorem first_ones (T : Tb) (hT : T.Ok) (k : Nat) : F_first_ones [T.e, .int k] = W.pure (enc (csort (T.ord.take k))) := by
  have hl := ord_len T hT
  unfold F_first_ones defW B_first_ones
  array_get_dec
  rw [order_of T hT, enc_list]
  array_get_dec
  rw [cutL_take, ← List.map_take, D.sorted_tup _ (size_le (by rw [List.length_take]; omega))]
  array_get_dec
  rfl
def hdOf (ds : List Int) : Nat := ((enumI ds).filter fun p => decide (p.1 ≤ p.2)).length
theorem head_of (ds : List Int) : F_head_of [enc ds] = W.pure (.int (hdOf ds)) := by
  unfold F_head_of defW B_head_of
  array_get_dec
  rw [lc_tp (enumI ds) (fun x => enc x.1) (fun x => enc x.2) (fun p => decide (p.1 ≤ p.2)) (fun _ => enc (1 : Int)) (by
      array_get_dec
      rw [enc_list, D.enum_tup]
      rfl) rfl (fun x _ => by
      array_get_dec
      rw [enc_int, enc_int]
      array_get_dec) (fun x _ _ => rfl)]
  array_get_dec
  rw [List.length_map]
  rfl
def slist (ds : List Int) : List Int := (csort ds).reverse
theorem sorted_list (ds : List Int) (h : ds.length ≤ 64) : F_sorted_list [enc ds] = W.pure (enc (slist ds)) := by
  unfold F_sorted_list defW B_sorted_list
  array_get_dec
  rw [enc_list, D.sorted_tup _ (size_le (by omega))]
  array_get_dec
  rw [← List.map_reverse]
  rfl
theorem list_of (T : Tb) (hT : T.Ok) : F_list_of [T.e] = W.pure (enc (slist T.counts)) := by
  have hl := counts_len T hT
  unfold F_list_of defW B_list_of
  array_get_dec
  rw [counts T hT]
  array_get_dec
  rw [sorted_list _ (by omega)]
def Tb.head (T : Tb) : Nat := hdOf (slist T.counts)
theorem head (T : Tb) (hT : T.Ok) : F_head [T.e] = W.pure (.int T.head) := by
  unfold F_head defW B_head
  array_get_dec
  rw [list_of T hT]
  array_get_dec
  rw [head_of]
  rfl
def Tb.top (T : Tb) : List Int := csort (T.ord.take T.head)
theorem by_counts (T : Tb) (hT : T.Ok) : F_by_counts [T.e] = W.pure (enc T.top) := by
  unfold F_by_counts defW B_by_counts
  array_get_dec
  rw [head T hT]
  array_get_dec
  rw [first_ones T hT]
  rfl
theorem top_len (T : Tb) (hT : T.Ok) : T.top.length ≤ 6 := by
  have := ord_len T hT
  unfold Tb.top
  rw [csort_length, List.length_take]
  omega
theorem a_parting (T : Tb) (hT : T.Ok) : F_a_parting [T.e] = W.pure (if T.parts T.top = true then enc T.top else .non) := by
  have := top_len T hT
  unfold F_a_parting defW B_a_parting
  array_get_dec
  rw [by_counts T hT]
  array_get_dec
  rw [does_part T hT _ (by omega)]
  array_get_dec
  rw [W.ite_pure]
def lackOf (ds : List Int) : Int := (hdOf ds : Int) * ((hdOf ds : Int) - 1) + (ds.drop (hdOf ds)).sum - (ds.take (hdOf ds)).sum
theorem hdOf_le (ds : List Int) : hdOf ds ≤ ds.length := by
  unfold hdOf
  refine Nat.le_trans (List.length_filter_le _ _) ?_
  rw [enumI_length]
  exact Nat.le_refl _
theorem lack_of (ds : List Int) (h : ds.length ≤ 64) : F_lack_of [enc ds] = W.pure (.int (lackOf ds)) := by
  have hl := hdOf_le ds
  unfold F_lack_of defW B_lack_of
  array_get_dec
  rw [head_of]
  array_get_dec
  rw [W.need_bind (.inl ⟨by omega, by omega⟩), enc_list]
  array_get_dec
  rw [cutL_take, cutL_drop, ← List.map_take, ← List.map_drop]
  rw [show ∀ xs : List Int, xs.map (enc (α := Int)) = xs.map D.int from fun _ => rfl, show ∀ xs : List Int, xs.map (enc (α := Int)) = xs.map D.int from fun _ => rfl, D.sum_tup, D.sum_tup]
  array_get_dec
  rfl
def Tb.lack (T : Tb) : Int := lackOf (slist T.counts)
theorem lack (T : Tb) (hT : T.Ok) : F_lack [T.e] = W.pure (.int T.lack) := by
  have hl := counts_len T hT
  unfold F_lack defW B_lack
  array_get_dec
  rw [list_of T hT]
  array_get_dec
  rw [lack_of _ (by unfold slist; rw [List.length_reverse, csort_length]; omega)]
  rfl
theorem half_lack (T : Tb) (hT : T.Ok) : F_half_lack [T.e] = W.pure (.int (T.lack / 2)) := by
  unfold F_half_lack defW B_half_lack
  array_get_dec
  rw [lack T hT]
  array_get_dec
  rw [W.need_bind ⟨by decide, by decide⟩]
theorem fewest_wrong (T : Tb) (hT : T.Ok) : F_fewest_wrong [T.e] = W.pure (.int (T.lack / 2)) := by
  unfold F_fewest_wrong defW B_fewest_wrong
  array_get_dec
  rw [half_lack T hT]
end
end P92

set_option Elab.async false
set_option linter.all false
set_option maxRecDepth 100000
set_option maxHeartbeats 1000000
namespace P92
open PySem PySem.Spec PyProof.Rows L2 PW Cod
section
local macro_rules | `(tactic| array_get_dec) => `(tactic| simp only [W.need_len, W.need_len1, W.need_len2, W.need_len3, W.need_len4, W.need_sz0, W.need_sz1, W.need_sz2, W.need_sz3, W.need_sz4, W.need_sz5, forW_nil, forW_cons, Bool.true_and, Bool.not_true, Bool.not_false, wipeE, W.bind_pure, W.need_T, D.asLst_lst, seqW, W.run_bind, W.run_pure, W.run_need, W.run_fail, W.run_fa, W.run_ite, W.pure_bind, W.fail_bind, W.bind_assoc, W.ite_bind, W.some?_some, getV_zero, getV_succ, startE, List.length_cons, List.length_nil, List.map_cons, List.map_nil, List.cons_append, List.nil_append, List.replicate, List.set_cons_zero, List.set_cons_succ, D.eq_int, D.ne_int, D.add_int, D.add_lst, D.add_tup, D.sub_int, D.mul_int, D.mul_0, D.mul_1, D.mul_one, D.fdiv_int, D.mod_int, D.lt_int, D.le_int, D.gt_int, D.ge_int, D.tr_bl, D.truth_bl, D.int1_int, D.int1_bl, D.asInt_int, D.slice_lst, D.slice_tup, D.ix_lst, D.ix_tup, D.bagI_bag, D.bagC_bag, D.bagSet_bag, D.bagAdd_int, D.isBag_bag, D.len_lst, D.len_tup, D.min_int, D.max_int, D.abs_int, D.neg_int, D.tuple_lst, D.tuple_tup, D.iter_lst, D.iter_tup, D.items_lst, D.items_tup, D.rev_lst, atI_zero, atI_one, atI_two, atI_three, atI_four, atI_neg1, setAll_nil, setAll_cons, Tgt.set_nm, Tgt.set_tp, fin_rt, fin_nx, W.ite_and, W.ite_or, W.ite_andD, W.ite_orD, Bool.false_eq_true, if_true, if_false])
theorem k_len (T : Tb) (hT : T.Ok) : T.2.length ≤ 36 := Nat.le_trans (hT.nd.length_le_of_subset fun c hc => mem_cpl.mpr (hT.mem c hc)) (cpl_len _ hT.n6)
def Tb.withc (T : Tb) (a b : Int) : Tb := (T.1, csort (T.2 ++ [(min a b, max a b)]))
def Tb.without (T : Tb) (a b : Int) : Tb := (T.1, T.2.filter fun c => !decide (c = (min a b, max a b)))
def Tb.tog (T : Tb) (a b : Int) : Tb := if T.kn a b = true then T.without a b else T.withc a b
structure Tb.In (T : Tb) (a b : Int) : Prop where
  a0 : 0 ≤ a
  an : a < T.1
  b0 : 0 ≤ b
  bn : b < T.1
  ne : a ≠ b
theorem Tb.Ok.without {T : Tb} (hT : T.Ok) (a b : Int) : (T.without a b).Ok := ⟨hT.n0, hT.n6, hT.nd.filter _, fun c hc => hT.mem c (List.mem_filter.mp hc).1⟩
theorem Tb.Ok.withc {T : Tb} (hT : T.Ok) {a b : Int} (h : T.In a b) (hk : T.kn a b = false) : (T.withc a b).Ok := by
  have hn : (min a b, max a b) ∉ T.2 := of_decide_eq_false hk
  refine ⟨hT.n0, hT.n6, (csort_perm _).nodup_iff.mpr ?_, fun c hc => ?_⟩
  · refine List.nodup_append.mpr ⟨hT.nd, by simp, fun x hx y hy e => ?_⟩
    rw [List.mem_singleton] at hy
    subst e hy
    exact hn hx
  · rcases List.mem_append.mp (mem_csort.mp hc) with hc | hc
    · exact hT.mem c hc
    · rw [List.mem_singleton] at hc
      subst hc
      have := h.a0
      have := h.an
      have := h.b0
      have := h.bn
      have := h.ne
      show 0 ≤ min a b ∧ min a b < max a b ∧ max a b < T.1
      omega
theorem Tb.Ok.tog {T : Tb} (hT : T.Ok) {a b : Int} (h : T.In a b) : (T.tog a b).Ok := by
  unfold Tb.tog
  split
  · exact hT.without a b
  · rename_i q
    exact hT.withc h (by simpa using q)
theorem need_people2 (T : Tb) (v w : Int) (h : 0 ≤ v ∧ v < T.1) (h2 : 0 ≤ w ∧ w < T.1) : F_need_people [T.e, .int v, .int w] = W.pure .non := by
  unfold F_need_people defVW B_need_people
  array_get_dec
  unfold Tb.e
  array_get_dec
  have e : (decide (0 ≤ v) && decide (v ≤ T.1 - 1)) = true := by
    rw [Bool.and_eq_true, decide_eq_true_eq, decide_eq_true_eq]
    omega
  have e2 : (decide (0 ≤ w) && decide (w ≤ T.1 - 1)) = true := by
    rw [Bool.and_eq_true, decide_eq_true_eq, decide_eq_true_eq]
    omega
  rw [is_within, W.need_bind (by decide)]
  array_get_dec
  rw [e]
  array_get_dec
  rw [is_within]
  array_get_dec
  rw [e2]
  array_get_dec
theorem need_two (T : Tb) (a b : Int) (h : T.In a b) : F_need_two [T.e, .int a, .int b] = W.pure .non := by
  unfold F_need_two defW B_need_two
  array_get_dec
  rw [need_people2 T a b ⟨h.a0, h.an⟩ ⟨h.b0, h.bn⟩]
  array_get_dec
  rw [decide_eq_false h.ne]
  array_get_dec
theorem without_couple (T : Tb) (a b : Int) (h : T.In a b) (hk : T.kn a b = true) : F_without_couple [T.e, .int a, .int b] = W.pure (T.without a b).e := by
  unfold F_without_couple defW B_without_couple
  array_get_dec
  rw [need_two T a b h]
  array_get_dec
  rw [is_known, hk]
  array_get_dec
  unfold Tb.e
  array_get_dec
  rw [lc_nm T.2 enc (fun c => !decide (c = (min a b, max a b))) enc (by array_get_dec) rfl (fun c _ => by
    array_get_dec
    rw [minI, maxI, show D.tup [D.int (min a b), D.int (max a b)] = enc (min a b, max a b) from rfl, D.ne_enc]
    array_get_dec) (fun x _ _ => rfl)]
  array_get_dec
  rfl
theorem with_couple (T : Tb) (hT : T.Ok) (a b : Int) (h : T.In a b) (hk : T.kn a b = false) : F_with_couple [T.e, .int a, .int b] = W.pure (T.withc a b).e := by
  have hl := k_len T hT
  unfold F_with_couple defW B_with_couple
  array_get_dec
  rw [need_two T a b h]
  array_get_dec
  rw [is_known, hk]
  array_get_dec
  unfold Tb.e
  array_get_dec
  rw [minI, maxI, show D.tup [D.int (min a b), D.int (max a b)] = enc (min a b, max a b) from rfl, show T.2.map enc ++ [enc (min a b, max a b)] = (T.2 ++ [(min a b, max a b)]).map enc from by rw [List.map_append]; rfl]
  rw [W.need_size (by rw [List.length_map, List.length_append]; simp; omega), D.sorted_lst _ (size_le (by rw [List.length_append]; simp; omega))]
  array_get_dec
  rfl
theorem told_otherwise (T : Tb) (hT : T.Ok) (a b : Int) (h : T.In a b) : F_told_otherwise [T.e, .int a, .int b] = W.pure (T.tog a b).e := by
  unfold F_told_otherwise defW B_told_otherwise
  array_get_dec
  rw [is_known]
  array_get_dec
  unfold Tb.tog
  by_cases q : T.kn a b = true
  · rw [if_pos q, if_pos q, without_couple T a b h q]
  · rw [if_neg q, if_neg q, with_couple T hT a b h (by simpa using q)]
theorem lack_by (T : Tb) (hT : T.Ok) (a b : Int) (h : T.In a b) : F_lack_by [T.e, .int a, .int b] = W.pure (.int (T.tog a b).lack) := by
  unfold F_lack_by defW B_lack_by
  array_get_dec
  rw [told_otherwise T hT a b h]
  array_get_dec
  rw [lack _ (hT.tog h)]
theorem lack_with (T : Tb) (hT : T.Ok) (a b : Int) (h : T.In a b) : F_lack_with [T.e, .int a, .int b] = W.pure (.int (T.tog a b).lack) := by
  unfold F_lack_with defW B_lack_with
  array_get_dec
  rw [need_two T a b h]
  array_get_dec
  rw [lack_by T hT a b h]
theorem in_cpl {T : Tb} {c : Int × Int} (h : c ∈ cpl T.1) : T.In c.1 c.2 := by
  have := mem_cpl.mp h
  exact ⟨by omega, by omega, by omega, by omega, by omega⟩
def Tb.better (T : Tb) : List (Int × Int) := (cpl T.1).filter fun c => decide ((T.tog c.1 c.2).lack < T.lack)
theorem better (T : Tb) (hT : T.Ok) : F_better [T.e] = W.pure (enc T.better) := by
  have h0 := hT.n0
  have h6 := hT.n6
  unfold F_better defW B_better
  array_get_dec
  rw [lc_tp (cpl T.1) (fun c => enc c.1) (fun c => enc c.2) (fun c => decide ((T.tog c.1 c.2).lack < T.lack)) enc (by
      array_get_dec
      rw [people]
      array_get_dec
      rw [all_couples _ h0 h6]
      array_get_dec
      rfl) rfl (fun c hc => by
      array_get_dec
      rw [enc_int, enc_int, lack_by T hT _ _ (in_cpl hc)]
      array_get_dec
      rw [lack T hT]
      array_get_dec) (fun c _ _ => rfl)]
  array_get_dec
  rfl
def Tb.turn (T : Tb) : Tb := (T.1, (cpl T.1).filter fun c => !decide (c ∈ T.2))
theorem Tb.Ok.turn {T : Tb} (hT : T.Ok) : T.turn.Ok := ⟨hT.n0, hT.n6, (cpl_nodup _).filter _, fun c hc => mem_cpl.mp (List.mem_filter.mp hc).1⟩
theorem strangers (T : Tb) (hT : T.Ok) : F_strangers [T.e] = W.pure (enc T.turn.2) := by
  have h0 := hT.n0
  have h6 := hT.n6
  unfold F_strangers defW B_strangers
  array_get_dec
  rw [lc_nm (cpl T.1) enc (fun c => !decide (c ∈ T.2)) enc (by
      unfold Tb.e
      array_get_dec
      rw [all_couples _ h0 h6]
      array_get_dec) rfl (fun c hc => by
      unfold Tb.e
      array_get_dec
      rw [D.notIn_tup]
      array_get_dec) (fun c _ _ => rfl)]
  array_get_dec
  rfl
theorem turned (T : Tb) (hT : T.Ok) : F_turned [T.e] = W.pure T.turn.e := by
  unfold F_turned defW B_turned
  array_get_dec
  rw [strangers T hT]
  unfold Tb.e
  array_get_dec
  rfl
end
end P92

set_option Elab.async false
set_option linter.all false
set_option maxRecDepth 100000
set_option maxHeartbeats 1000000
namespace P92
open PySem PySem.Spec PyProof.Rows L2 PW Cod
section
local macro_rules | `(tactic| array_get_dec) => `(tactic| simp only [W.need_len, W.need_len1, W.need_len2, W.need_len3, W.need_len4, W.need_sz0, W.need_sz1, W.need_sz2, W.need_sz3, W.need_sz4, W.need_sz5, forW_nil, forW_cons, Bool.true_and, Bool.not_true, Bool.not_false, wipeE, W.bind_pure, W.need_T, D.asLst_lst, seqW, W.run_bind, W.run_pure, W.run_need, W.run_fail, W.run_fa, W.run_ite, W.pure_bind, W.fail_bind, W.bind_assoc, W.ite_bind, W.some?_some, getV_zero, getV_succ, startE, List.length_cons, List.length_nil, List.map_cons, List.map_nil, List.cons_append, List.nil_append, List.replicate, List.set_cons_zero, List.set_cons_succ, D.eq_int, D.ne_int, D.add_int, D.add_lst, D.add_tup, D.sub_int, D.mul_int, D.mul_0, D.mul_1, D.mul_one, D.fdiv_int, D.mod_int, D.lt_int, D.le_int, D.gt_int, D.ge_int, D.tr_bl, D.truth_bl, D.int1_int, D.int1_bl, D.asInt_int, D.slice_lst, D.slice_tup, D.ix_lst, D.ix_tup, D.bagI_bag, D.bagC_bag, D.bagSet_bag, D.bagAdd_int, D.isBag_bag, D.len_lst, D.len_tup, D.min_int, D.max_int, D.abs_int, D.neg_int, D.tuple_lst, D.tuple_tup, D.iter_lst, D.iter_tup, D.items_lst, D.items_tup, D.rev_lst, atI_zero, atI_one, atI_two, atI_three, atI_four, atI_neg1, setAll_nil, setAll_cons, Tgt.set_nm, Tgt.set_tp, fin_rt, fin_nx, W.ite_and, W.ite_or, W.ite_andD, W.ite_orD, Bool.false_eq_true, if_true, if_false])
theorem are_all (l : List Int) : F_are_all [enc l, .fn "is_integer"] = W.pure (.bl true) := by
  unfold F_are_all defW B_are_all
  array_get_dec
  rw [D.isi_tup]
  array_get_dec
  rw [lc_map l enc (fun _ => .bl true) rfl rfl (fun x _ => by
    array_get_dec
    rw [show M_are_all.fnOf (.fn "is_integer") = W.pure F_is_integer from rfl]
    array_get_dec
    rw [enc_int, is_integer])]
  array_get_dec
  rw [D.all_map]
  congr 2
  rw [List.all_eq_true]
  exact fun _ _ => rfl
theorem are_integers (l : List Int) : F_are_integers [enc l] = W.pure (.bl true) := by
  unfold F_are_integers defW B_are_integers
  array_get_dec
  rw [show (D.fn (Str.ofString "is_integer")) = D.fn "is_integer" from rfl, are_all]
theorem do_rise (l : List Int) : F_do_rise [enc l] = W.pure (.bl (decide (l.Pairwise fun a b => a < b))) := by
  unfold F_do_rise defW B_do_rise
  array_get_dec
  rw [are_integers]
  array_get_dec
  rw [lc_tpmap (l.zip (l.drop 1)) (fun x => enc x.1) (fun x => enc x.2) (fun p => .bl (decide (p.1 < p.2))) (by
      array_get_dec
      rw [enc_list]
      array_get_dec
      rw [show (1 : Int) = ((1 : Nat) : Int) from rfl, cutL_drop, ← List.map_drop, D.zip_tup]
      rfl) rfl (fun p _ => by
      array_get_dec
      rw [enc_int, enc_int]
      array_get_dec)]
  array_get_dec
  rw [D.all_map, rise_iff]
def Tb.isLot (T : Tb) (l : List Int) : Bool := decide (l.Pairwise fun a b => a < b) && l.all fun x => decide (0 ≤ x) && decide (x < T.1)
theorem is_lot (T : Tb) (l : List Int) : F_is_lot [T.e, enc l] = W.pure (.bl (T.isLot l)) := by
  unfold F_is_lot defW B_is_lot
  array_get_dec
  rw [are_integers]
  array_get_dec
  rw [do_rise]
  array_get_dec
  rw [lc_map l enc (fun x => .bl (decide (0 ≤ x) && decide (x < T.1))) rfl rfl (fun x _ => by
      unfold Tb.e
      array_get_dec
      rw [enc_int]
      array_get_dec)]
  array_get_dec
  rw [D.all_map]
  array_get_dec
  rfl
theorem is_parting (T : Tb) (hT : T.Ok) (l : List Int) (hl : l.length ≤ 64) : F_is_parting [T.e, enc l] = W.pure (.bl (T.isLot l && T.parts l)) := by
  unfold F_is_parting defW B_is_parting
  array_get_dec
  rw [is_lot]
  array_get_dec
  rw [does_part T hT l hl]
  array_get_dec
/-! ### rings -/
def Tb.step (T : Tb) (r : List Int) : List (List Int) := ((rngI (r.headD 0 + 1) T.1).filter (T.kn (r.getLastD 0))).map fun x => r ++ [x]
def Tb.rows (T : Tb) : Nat → List (List Int)
  | 0 => (rngI 0 T.1).map fun x => [x]
  | k + 1 => (T.rows k).flatMap T.step
def Tb.rings (T : Tb) (k : Nat) : List (List Int) := (T.rows k).filter fun r => T.kn (r.headD 0) (r.getLastD 0)
theorem rows_len (T : Tb) (hT : T.Ok) (k : Nat) : (T.rows k).length ≤ 6 ^ (k + 1) ∧ ∀ r ∈ T.rows k, r.length = k + 1 ∧ ∀ x ∈ r, 0 ≤ x ∧ x < T.1 := by
  have h0 := hT.n0
  have h6 := hT.n6
  induction k with
  | zero =>
    refine ⟨?_, ?_⟩
    · unfold Tb.rows
      rw [List.length_map, rngI_length]
      omega
    · intro r hr
      obtain ⟨x, hx, rfl⟩ := List.mem_map.mp hr
      exact ⟨rfl, fun y hy => by rw [List.mem_singleton] at hy; subst hy; exact mem_rngI.mp hx⟩
  | succ k ih =>
    constructor
    · show ((T.rows k).flatMap T.step).length ≤ _
      rw [List.length_flatMap]
      refine Nat.le_trans (sum_le_mul _ _ 6 fun r hr => ?_) ?_
      · have hr := (ih.2 r hr)
        have hne : r.headD 0 ∈ r := by
          cases r with
          | nil => cases hr.1
          | cons y ys => exact List.mem_cons_self
        have := hr.2 _ hne
        unfold Tb.step
        rw [List.length_map]
        refine Nat.le_trans (List.length_filter_le _ _) ?_
        rw [rngI_length]
        omega
      · rw [Nat.pow_succ]
        exact Nat.mul_le_mul_right 6 ih.1
    · intro r hr
      obtain ⟨q, hq, hr⟩ := List.mem_flatMap.mp hr
      obtain ⟨x, hx, rfl⟩ := List.mem_map.mp hr
      have hq := ih.2 q hq
      have hx := mem_rngI.mp (List.mem_filter.mp hx).1
      have hne : q.headD 0 ∈ q := by
        cases q with
        | nil => cases hq.1
        | cons y ys => exact List.mem_cons_self
      have := hq.2 _ hne
      refine ⟨by rw [List.length_append, hq.1]; rfl, fun y hy => ?_⟩
      rcases List.mem_append.mp hy with hy | hy
      · exact hq.2 y hy
      · rw [List.mem_singleton] at hy
        subst hy
        omega
end
end P92

set_option Elab.async false
set_option linter.all false
set_option maxRecDepth 100000
set_option maxHeartbeats 1000000
namespace P92
open PySem PySem.Spec PyProof.Rows L2 PW Cod
section
local macro_rules | `(tactic| array_get_dec) => `(tactic| simp only [W.need_len, W.need_len1, W.need_len2, W.need_len3, W.need_len4, W.need_sz0, W.need_sz1, W.need_sz2, W.need_sz3, W.need_sz4, W.need_sz5, forW_nil, forW_cons, Bool.true_and, Bool.not_true, Bool.not_false, wipeE, W.bind_pure, W.need_T, D.asLst_lst, seqW, W.run_bind, W.run_pure, W.run_need, W.run_fail, W.run_fa, W.run_ite, W.pure_bind, W.fail_bind, W.bind_assoc, W.ite_bind, W.some?_some, getV_zero, getV_succ, startE, List.length_cons, List.length_nil, List.map_cons, List.map_nil, List.cons_append, List.nil_append, List.replicate, List.set_cons_zero, List.set_cons_succ, D.eq_int, D.ne_int, D.add_int, D.add_lst, D.add_tup, D.sub_int, D.mul_int, D.mul_0, D.mul_1, D.mul_one, D.fdiv_int, D.mod_int, D.lt_int, D.le_int, D.gt_int, D.ge_int, D.tr_bl, D.truth_bl, D.int1_int, D.int1_bl, D.asInt_int, D.slice_lst, D.slice_tup, D.ix_lst, D.ix_tup, D.bagI_bag, D.bagC_bag, D.bagSet_bag, D.bagAdd_int, D.isBag_bag, D.len_lst, D.len_tup, D.min_int, D.max_int, D.abs_int, D.neg_int, D.tuple_lst, D.tuple_tup, D.iter_lst, D.iter_tup, D.items_lst, D.items_tup, D.rev_lst, atI_zero, atI_one, atI_two, atI_three, atI_four, atI_neg1, setAll_nil, setAll_cons, Tgt.set_nm, Tgt.set_tp, fin_rt, fin_nx, W.ite_and, W.ite_or, W.ite_andD, W.ite_orD, Bool.false_eq_true, if_true, if_false])
theorem rows_small (T : Tb) (hT : T.Ok) {k : Nat} (hk : k ≤ 5) : (T.rows k).length ≤ 46656 :=
  Nat.le_trans (rows_len T hT k).1 (Nat.pow_le_pow_right (n := 6) (by decide) (by omega : k + 1 ≤ 6))
theorem row_ne {T : Tb} (hT : T.Ok) {k : Nat} {r : List Int} (hr : r ∈ T.rows k) : r ≠ [] := fun e => by
  have := ((rows_len T hT k).2 r hr).1
  rw [e] at this
  cases this
theorem row_head {T : Tb} (hT : T.Ok) {k : Nat} {r : List Int} (hr : r ∈ T.rows k) : 0 ≤ r.headD 0 ∧ r.headD 0 < T.1 := by
  refine ((rows_len T hT k).2 r hr).2 _ ?_
  cases r with
  | nil => exact absurd rfl (row_ne hT hr)
  | cons y ys => exact List.mem_cons_self
theorem rings_of (T : Tb) (hT : T.Ok) (m : Nat) (hm : m ≤ 5) : F_rings_of [T.e, .int (m + 1 : Nat)] = W.pure (.lst ((T.rings m).map enc)) := by
  have h0 := hT.n0
  have h6 := hT.n6
  unfold F_rings_of defW B_rings_of
  array_get_dec
  rw [lc_map (rngI 0 T.1) enc (fun x => enc [x]) (by array_get_dec; rw [people]; array_get_dec; rw [D.rng1_int ⟨by omega, by omega⟩]) rfl (fun x _ => rfl)]
  array_get_dec
  rw [show ((m + 1 : Nat) : Int) - 1 = (m : Int) by omega, D.rng1_int ⟨by omega, by omega⟩]
  array_get_dec
  refine for_bind (e := enc) (fun done ρ => ∃ a b c d, ρ = [some T.e, some (.int (m + 1 : Nat)), some (.lst ((T.rows done.length).map enc)), a, none, b, c, d]) (rngI 0 m) _ ⟨none, none, none, none, by rw [show T.rows ([] : List Int).length = (rngI 0 T.1).map fun x => [x] from rfl, List.map_map]; rfl⟩ (fun done x rest ρ hx ⟨a, b, c, d, hρ⟩ => by
    subst hρ
    have hlen : done.length < m := by
      have e := congrArg List.length hx
      rw [List.length_append, List.length_cons, rngI_length] at e
      omega
    have hbig := rows_small T hT (k := done.length + 1) (by omega)
    have hst : T.rows (done.length + 1) = (T.rows done.length).flatMap T.step := rfl
    rw [hst] at hbig
    array_get_dec
    refine for_ex (e := enc) (fun dn ρ => ∃ b c d, ρ = [some T.e, some (.int (m + 1 : Nat)), some (.lst ((T.rows done.length).map enc)), some (enc x), some (.lst ((dn.flatMap T.step).map enc)), b, c, d]) (T.rows done.length) _ ⟨_, _, _, rfl⟩ (fun dn r rest2 ρ hx2 ⟨b, c, d, hρ⟩ => by
      subst hρ
      have hr : r ∈ T.rows done.length := by rw [← hx2]; simp
      have hh := row_head hT hr
      have hrl := ((rows_len T hT done.length).2 r hr).1
      have hsm : (dn.flatMap T.step).length + (T.step r).length ≤ 46656 := by
        rw [← hx2, List.flatMap_append, List.flatMap_cons, List.length_append, List.length_append] at hbig
        omega
      refine ⟨[some T.e, some (.int (m + 1 : Nat)), some (.lst ((T.rows done.length).map enc)), some (enc x), some (.lst (((dn ++ [r]).flatMap T.step).map enc)), some (enc r), some (.rng (r.headD 0 + 1) T.1), d], .inl ?_, _, _, _, rfl⟩
      array_get_dec
      rw [D.ix_head (row_ne hT hr)]
      array_get_dec
      rw [people]
      array_get_dec
      rw [D.range2]
      array_get_dec
      rw [lc_nm (rngI (r.headD 0 + 1) T.1) enc (T.kn (r.getLastD 0)) (fun y => enc (r ++ [y])) (by array_get_dec; rw [D.iter_rng (by omega) (by omega) (by omega) (by omega) (by omega)]) rfl (fun y _ => by
        array_get_dec
        rw [D.ix_last (row_ne hT hr), W.pure_bind, enc_int, is_known]
        array_get_dec) (fun y _ _ => by
        array_get_dec
        rw [enc_list]
        array_get_dec
        rw [W.need_size (by rw [List.length_append, List.length_map, List.length_cons, List.length_nil]; omega), enc_list, List.map_append]
        rfl)]
      array_get_dec
      have hsl : (T.step r).length = (((rngI (r.headD 0 + 1) T.1).filter (T.kn (r.getLastD 0)))).length := by unfold Tb.step; rw [List.length_map]
      rw [W.need_size (by rw [List.length_map, List.length_map]; omega), List.flatMap_append, List.flatMap_cons, List.flatMap_nil, List.append_nil, List.map_append]
      unfold Tb.step
      rw [List.map_map]
      rfl) (fun ρ' ⟨b, c, d, e⟩ => by
        subst e
        array_get_dec
        exact ⟨_, .inl rfl, some (enc x), b, c, d, by rw [List.length_append, List.length_cons, List.length_nil, hst]⟩)
    ) (fun ρ' ⟨a, b, c, d, e⟩ => by
      subst e
      have hl : (rngI 0 m).length = m := by rw [rngI_length]; omega
      rw [hl]
      array_get_dec
      rw [lc_nm (T.rows m) enc (fun r => T.kn (r.headD 0) (r.getLastD 0)) enc rfl rfl (fun r hr => by
        array_get_dec
        rw [D.ix_head (row_ne hT hr), W.pure_bind, D.ix_last (row_ne hT hr), W.pure_bind, is_known]
        array_get_dec) (fun _ _ _ => rfl)]
      rfl)
def Tb.lstep (T : Tb) (r : List Int) : List (List Int) := ((rngI (r.headD 0 + 1) T.1).filter fun y => !decide (y ∈ r) && T.kn (r.getLastD 0) y).map fun x => r ++ [x]
def Tb.lrows (T : Tb) : Nat → List (List Int)
  | 0 => (rngI 0 T.1).map fun x => [x]
  | k + 1 => (T.lrows k).flatMap T.lstep
theorem lstep_eq (T : Tb) (r : List Int) (h : r.Nodup) : T.lstep r = (T.step r).filter fun q => decide q.Nodup := by
  unfold Tb.lstep Tb.step
  rw [List.filter_map, List.filter_filter]
  congr 1
  refine List.filter_congr fun y hy => ?_
  have e : (decide (r ++ [y]).Nodup) = !decide (y ∈ r) := by
    rw [Bool.eq_iff_iff, decide_eq_true_eq, Bool.not_eq_true', decide_eq_false_iff_not, List.nodup_append]
    constructor
    · rintro ⟨_, _, h3⟩ hm
      exact h3 y hm y List.mem_cons_self rfl
    · intro hn
      refine ⟨h, by simp, fun a ha b hb e => ?_⟩
      rw [List.mem_singleton] at hb
      subst e hb
      exact hn ha
  show _ = (decide (r ++ [y]).Nodup && _)
  rw [e]
theorem lrows_eq (T : Tb) (k : Nat) : T.lrows k = (T.rows k).filter fun q => decide q.Nodup := by
  induction k with
  | zero =>
    show (rngI 0 T.1).map (fun x => [x]) = ((rngI 0 T.1).map fun x => [x]).filter _
    rw [List.filter_eq_self.mpr fun q hq => ?_]
    obtain ⟨x, _, rfl⟩ := List.mem_map.mp hq
    simp
  | succ k ih =>
    show (T.lrows k).flatMap T.lstep = ((T.rows k).flatMap T.step).filter _
    rw [ih, List.filter_flatMap]
    have key : ∀ xs : List (List Int), (xs.filter fun q => decide q.Nodup).flatMap T.lstep = xs.flatMap fun r => (T.step r).filter fun q => decide q.Nodup := by
      intro xs
      induction xs with
      | nil => rfl
      | cons r xs ih =>
        rw [List.flatMap_cons, ← ih]
        by_cases h : r.Nodup
        · rw [List.filter_cons_of_pos (by simpa using h), List.flatMap_cons, lstep_eq T r h]
        · rw [List.filter_cons_of_neg (by simpa using h)]
          have e : (T.step r).filter (fun q => decide q.Nodup) = [] := by
            rw [List.filter_eq_nil_iff]
            intro q hq
            obtain ⟨x, _, rfl⟩ := List.mem_map.mp hq
            rw [decide_eq_true_eq]
            exact fun hn => h (List.nodup_append.mp hn).1
          rw [e, List.nil_append]
    exact key _
theorem lrow_mem {T : Tb} {k : Nat} {r : List Int} (h : r ∈ T.lrows k) : r ∈ T.rows k := by
  rw [lrows_eq] at h
  exact (List.mem_filter.mp h).1
/-- known couples inside a row -/
def Tb.ins (T : Tb) (r : List Int) : Nat := (T.2.filter fun c => decide (c.1 ∈ r) && decide (c.2 ∈ r)).length
def Tb.isGood (T : Tb) (k : Nat) (r : List Int) : Bool := T.kn (r.headD 0) (r.getLastD 0) && (decide (T.ins r = k) && decide ((r[1]?).getD 0 < r.getLastD 0))
def Tb.lrings (T : Tb) (m : Nat) : List (List Int) := csort ((T.lrows m).filter (T.isGood (m + 1)))
theorem law_rings (T : Tb) (hT : T.Ok) (m : Nat) (hm : m ≤ 5) (hm1 : 1 ≤ m) : F__law_rings [T.e, .int (m + 1 : Nat)] = W.pure (.lst ((T.lrings m).map enc)) := by
  have h0 := hT.n0
  have h6 := hT.n6
  unfold F__law_rings defW B__law_rings
  array_get_dec
  rw [lc_map (rngI 0 T.1) enc (fun x => enc [x]) (by unfold Tb.e; array_get_dec; rw [D.rng1_int ⟨by omega, by omega⟩]) rfl (fun x _ => rfl)]
  array_get_dec
  rw [show ((m + 1 : Nat) : Int) - 1 = (m : Int) by omega, D.rng1_int ⟨by omega, by omega⟩]
  array_get_dec
  refine for_bind (e := enc) (fun done ρ => ∃ a b : Option D, ρ = [some T.e, some (.int (m + 1 : Nat)), some (.lst ((T.lrows done.length).map enc)), a, none, b, none, none, none, none, none]) (rngI 0 m) _ ⟨none, none, by rw [show T.lrows ([] : List Int).length = (rngI 0 T.1).map fun x => [x] from rfl, List.map_map]; rfl⟩ (fun done x rest ρ hx ⟨a, b, hρ⟩ => by
    subst hρ
    have hlen : done.length < m := by
      have e := congrArg List.length hx
      rw [List.length_append, List.length_cons, rngI_length] at e
      omega
    have hbig : (T.lrows (done.length + 1)).length ≤ 46656 := by
      rw [lrows_eq]
      exact Nat.le_trans (List.length_filter_le _ _) (rows_small T hT (k := done.length + 1) (by omega))
    have hst : T.lrows (done.length + 1) = (T.lrows done.length).flatMap T.lstep := rfl
    rw [hst] at hbig
    array_get_dec
    refine for_ex (e := enc) (fun dn ρ => ∃ b, ρ = [some T.e, some (.int (m + 1 : Nat)), some (.lst ((T.lrows done.length).map enc)), some (enc x), some (.lst ((dn.flatMap T.lstep).map enc)), b, none, none, none, none, none]) (T.lrows done.length) _ ⟨_, rfl⟩ (fun dn r rest2 ρ hx2 ⟨b, hρ⟩ => by
      subst hρ
      have hr : r ∈ T.rows done.length := lrow_mem (by rw [← hx2]; simp)
      have hh := row_head hT hr
      have hrl := ((rows_len T hT done.length).2 r hr).1
      have hsm : (dn.flatMap T.lstep).length + (T.lstep r).length ≤ 46656 := by
        rw [← hx2, List.flatMap_append, List.flatMap_cons, List.length_append, List.length_append] at hbig
        omega
      refine ⟨[some T.e, some (.int (m + 1 : Nat)), some (.lst ((T.lrows done.length).map enc)), some (enc x), some (.lst (((dn ++ [r]).flatMap T.lstep).map enc)), some (enc r), none, none, none, none, none], .inl ?_, _, rfl⟩
      array_get_dec
      rw [lc_nm (rngI (r.headD 0 + 1) T.1) enc (fun y => !decide (y ∈ r) && T.kn (r.getLastD 0) y) (fun y => enc (r ++ [y])) (by
          array_get_dec
          rw [D.ix_head (row_ne hT hr)]
          unfold Tb.e
          array_get_dec
          rw [D.rng2_int (by omega) (by omega) (by omega) (by omega) (by omega)]) rfl (fun y _ => by
        array_get_dec
        rw [D.ix_last (row_ne hT hr), W.pure_bind, enc_int, law_know, enc_list, ← enc_int, D.notIn_tup]
        array_get_dec) (fun y _ _ => by
        array_get_dec
        rw [enc_list]
        array_get_dec
        rw [W.need_size (by rw [List.length_map]; omega), enc_list, List.map_append]
        rfl)]
      array_get_dec
      have hsl : (T.lstep r).length = (((rngI (r.headD 0 + 1) T.1).filter fun y => !decide (y ∈ r) && T.kn (r.getLastD 0) y)).length := by unfold Tb.lstep; rw [List.length_map]
      rw [W.need_size (by rw [List.length_map, List.length_map]; omega), List.flatMap_append, List.flatMap_cons, List.flatMap_nil, List.append_nil, List.map_append]
      unfold Tb.lstep
      rw [List.map_map]
      rfl) (fun ρ' ⟨b, e⟩ => by
        subst e
        array_get_dec
        exact ⟨_, .inl rfl, some (enc x), b, by rw [List.length_append, List.length_cons, List.length_nil, hst]⟩)
    ) (fun ρ' ⟨a, b, e⟩ => by
      subst e
      have hl : (rngI 0 m).length = m := by rw [rngI_length]; omega
      rw [hl]
      have hbig : (T.lrows m).length ≤ 46656 := by
        rw [lrows_eq]
        exact Nat.le_trans (List.length_filter_le _ _) (rows_small T hT (k := m) (by omega))
      array_get_dec
      refine for_bind (e := enc) (fun dn ρ => ∃ b c d f g, ρ = [some T.e, some (.int (m + 1 : Nat)), some (.lst ((T.lrows m).map enc)), a, none, b, some (.lst ((dn.filter (T.isGood (m + 1))).map enc)), c, d, f, g]) (T.lrows m) _ ⟨_, _, _, _, _, rfl⟩ (fun dn r rest2 ρ hx2 ⟨b, c, d, f, g, hρ⟩ => by
        subst hρ
        have hr : r ∈ T.rows m := lrow_mem (by rw [← hx2]; simp)
        have hdn : dn.length + 1 ≤ 46656 := by
          have e := congrArg List.length hx2
          rw [List.length_append, List.length_cons] at e
          omega
        refine ⟨[some T.e, some (.int (m + 1 : Nat)), some (.lst ((T.lrows m).map enc)), a, none, some (enc r), some (.lst (((dn ++ [r]).filter (T.isGood (m + 1))).map enc)), some (.int (T.ins r)), d, f, g], .inl ?_, _, _, _, _, _, rfl⟩
        array_get_dec
        rw [lc_tp T.2 (fun c => enc c.1) (fun c => enc c.2) (fun c => decide (c.1 ∈ r) && decide (c.2 ∈ r)) (fun _ => enc (1 : Int)) (by
            unfold Tb.e
            array_get_dec
            rfl) rfl (fun c _ => by
            array_get_dec
            rw [enc_list, D.in_tup, D.in_tup]
            array_get_dec) (fun _ _ _ => rfl)]
        array_get_dec
        rw [D.ix_head (row_ne hT hr), D.ix_last (row_ne hT hr)]
        array_get_dec
        rw [law_know]
        array_get_dec
        have hfl := List.length_filter_le (T.isGood (m + 1)) dn
        have hml : (List.map (enc (α := List Int)) (dn.filter (T.isGood (m + 1)))).length ≤ 46656 := by rw [List.length_map]; omega
        rw [filter_snoc, W.need_size (show (List.map (enc (α := List Int)) (dn.filter (T.isGood (m + 1)))).length + 0 ≤ 1000000 by omega), List.append_nil, List.length_map, show (T.2.filter fun c => decide (c.1 ∈ r) && decide (c.2 ∈ r)).length = T.ins r from rfl]
        rw [show (D.ix (enc r) (.int 1)) = W.pure (.int ((r[1]?).getD 0)) from D.ix_at (i := 1) (by have := ((rows_len T hT m).2 r hr).1; omega)]
        array_get_dec
        by_cases h1 : T.kn (r.headD 0) (r.getLastD 0) = true
        · rw [if_pos h1]
          by_cases h2 : T.ins r = m + 1
          · have hg : T.isGood (m + 1) r = decide ((r[1]?).getD 0 < r.getLastD 0) := by unfold Tb.isGood; rw [h1]; simp [h2]
            rw [hg, decide_eq_true (show (T.ins r : Int) = ((m + 1 : Nat) : Int) by omega), if_pos rfl]
            by_cases h3 : (r[1]?).getD 0 < r.getLastD 0
            · rw [decide_eq_true h3]
              array_get_dec
              rw [W.need_size (by rw [List.length_map]; omega), List.map_append]
              rfl
            · rw [decide_eq_false h3]
              array_get_dec
              rw [W.need_size (by rw [List.length_map]; omega), List.append_nil, List.append_nil]
          · have hg : T.isGood (m + 1) r = false := by unfold Tb.isGood; rw [h1]; simp [h2]
            rw [hg, decide_eq_false (show ¬ (T.ins r : Int) = ((m + 1 : Nat) : Int) by omega), if_neg (by simp), if_neg (by simp), List.append_nil]
        · have hg : T.isGood (m + 1) r = false := by unfold Tb.isGood; rw [Bool.eq_false_iff.mpr h1, Bool.false_and]
          rw [if_neg h1, hg, if_neg (by simp), List.append_nil]) (fun ρ' ⟨b, c, d, f, g, e⟩ => by
          subst e
          array_get_dec
          rw [D.sorted_lst _ (size_le (Nat.le_trans (List.length_filter_le _ _) (by omega)))]
          rfl))
end
end P92

set_option Elab.async false
set_option linter.all false
set_option maxRecDepth 100000
set_option maxHeartbeats 1000000
namespace P92
open PySem PySem.Spec PyProof.Rows L2 PW Cod
section
local macro_rules | `(tactic| array_get_dec) => `(tactic| simp only [W.need_len, W.need_len1, W.need_len2, W.need_len3, W.need_len4, W.need_sz0, W.need_sz1, W.need_sz2, W.need_sz3, W.need_sz4, W.need_sz5, forW_nil, forW_cons, Bool.true_and, Bool.not_true, Bool.not_false, wipeE, W.bind_pure, W.need_T, D.asLst_lst, seqW, W.run_bind, W.run_pure, W.run_need, W.run_fail, W.run_fa, W.run_ite, W.pure_bind, W.fail_bind, W.bind_assoc, W.ite_bind, W.some?_some, getV_zero, getV_succ, startE, List.length_cons, List.length_nil, List.map_cons, List.map_nil, List.cons_append, List.nil_append, List.replicate, List.set_cons_zero, List.set_cons_succ, D.eq_int, D.ne_int, D.add_int, D.add_lst, D.add_tup, D.sub_int, D.mul_int, D.mul_0, D.mul_1, D.mul_one, D.fdiv_int, D.mod_int, D.lt_int, D.le_int, D.gt_int, D.ge_int, D.tr_bl, D.truth_bl, D.int1_int, D.int1_bl, D.asInt_int, D.slice_lst, D.slice_tup, D.ix_lst, D.ix_tup, D.bagI_bag, D.bagC_bag, D.bagSet_bag, D.bagAdd_int, D.isBag_bag, D.len_lst, D.len_tup, D.min_int, D.max_int, D.abs_int, D.neg_int, D.tuple_lst, D.tuple_tup, D.iter_lst, D.iter_tup, D.items_lst, D.items_tup, D.rev_lst, atI_zero, atI_one, atI_two, atI_three, atI_four, atI_neg1, setAll_nil, setAll_cons, Tgt.set_nm, Tgt.set_tp, fin_rt, fin_nx, W.ite_and, W.ite_or, W.ite_andD, W.ite_orD, Bool.false_eq_true, if_true, if_false])
def Tb.lcounts (T : Tb) : List Int := (rngI 0 T.1).map fun v => ((T.2.filter fun c => decide (v = c.1) || decide (v = c.2)).length : Int)
theorem law_counts (T : Tb) (hT : T.Ok) : F__law_counts [T.e] = W.pure (.lst (T.lcounts.map enc)) := by
  have h0 := hT.n0
  have h6 := hT.n6
  unfold F__law_counts defW B__law_counts
  array_get_dec
  rw [lc_map (rngI 0 T.1) enc (fun v => enc ((T.2.filter fun c => decide (v = c.1) || decide (v = c.2)).length : Int)) (by
      unfold Tb.e
      array_get_dec
      rw [D.rng1_int ⟨by omega, by omega⟩]) rfl (fun v _ => by
      array_get_dec
      rw [lc_nm T.2 enc (fun c => decide (v = c.1) || decide (v = c.2)) (fun _ => enc (1 : Int)) (by
          unfold Tb.e
          array_get_dec) rfl (fun c _ => by
          array_get_dec
          rw [show D.in (enc v) (enc c) = D.in (enc v) (.tup ([c.1, c.2].map enc)) from rfl, D.in_tup]
          array_get_dec
          simp) (fun _ _ _ => rfl)]
      array_get_dec
      rw [List.length_map]
      rfl)]
  unfold Tb.lcounts
  rw [List.map_map]
  rfl
theorem law_lack (ds : List Int) (h : ds.length ≤ 64) : F__law_lack [.lst (ds.map enc)] = W.pure (.int (lackOf (slist ds))) := by
  unfold F__law_lack defW B__law_lack
  array_get_dec
  rw [D.sorted_lst _ (size_le (by omega))]
  array_get_dec
  have hl : hdOf (slist ds) ≤ 64 := by
    refine Nat.le_trans (hdOf_le _) ?_
    unfold slist
    rw [List.length_reverse, csort_length]
    exact h
  rw [← List.map_reverse, show (csort ds).reverse = slist ds from rfl]
  rw [lc_tp (enumI (slist ds)) (fun x => enc x.1) (fun x => enc x.2) (fun p => decide (p.1 ≤ p.2)) (fun _ => enc (1 : Int)) (by
      array_get_dec
      rw [D.enum_lst]
      rfl) rfl (fun x _ => by
      array_get_dec
      rw [enc_int, enc_int]
      array_get_dec) (fun x _ _ => rfl)]
  array_get_dec
  rw [List.length_map, show ((enumI (slist ds)).filter fun p => decide (p.1 ≤ p.2)).length = hdOf (slist ds) from rfl, W.need_bind (.inl ⟨by omega, by omega⟩), cutL_take, cutL_drop, ← List.map_take, ← List.map_drop]
  rw [show ∀ xs : List Int, xs.map (enc (α := Int)) = xs.map D.int from fun _ => rfl, show ∀ xs : List Int, xs.map (enc (α := Int)) = xs.map D.int from fun _ => rfl, D.sum_lst, D.sum_lst]
  array_get_dec
  rfl
end
end P92

set_option Elab.async false
set_option linter.all false
set_option maxRecDepth 100000
set_option maxHeartbeats 1000000
namespace P92
open PySem PySem.Spec PyProof.Rows L2 PW Cod
section
local macro_rules | `(tactic| array_get_dec) => `(tactic| simp only [W.need_len, W.need_len1, W.need_len2, W.need_len3, W.need_len4, W.need_sz0, W.need_sz1, W.need_sz2, W.need_sz3, W.need_sz4, W.need_sz5, forW_nil, forW_cons, Bool.true_and, Bool.not_true, Bool.not_false, wipeE, W.bind_pure, W.need_T, D.asLst_lst, seqW, W.run_bind, W.run_pure, W.run_need, W.run_fail, W.run_fa, W.run_ite, W.pure_bind, W.fail_bind, W.bind_assoc, W.ite_bind, W.some?_some, getV_zero, getV_succ, startE, List.length_cons, List.length_nil, List.map_cons, List.map_nil, List.cons_append, List.nil_append, List.replicate, List.set_cons_zero, List.set_cons_succ, D.eq_int, D.ne_int, D.add_int, D.add_lst, D.add_tup, D.sub_int, D.mul_int, D.mul_0, D.mul_1, D.mul_one, D.fdiv_int, D.mod_int, D.lt_int, D.le_int, D.gt_int, D.ge_int, D.tr_bl, D.truth_bl, D.int1_int, D.int1_bl, D.asInt_int, D.slice_lst, D.slice_tup, D.ix_lst, D.ix_tup, D.bagI_bag, D.bagC_bag, D.bagSet_bag, D.bagAdd_int, D.isBag_bag, D.len_lst, D.len_tup, D.min_int, D.max_int, D.abs_int, D.neg_int, D.tuple_lst, D.tuple_tup, D.iter_lst, D.iter_tup, D.items_lst, D.items_tup, D.rev_lst, atI_zero, atI_one, atI_two, atI_three, atI_four, atI_neg1, setAll_nil, setAll_cons, Tgt.set_nm, Tgt.set_tp, fin_rt, fin_nx, W.ite_and, W.ite_or, W.ite_andD, W.ite_orD, Bool.false_eq_true, if_true, if_false])
def Tb.goes (T : Tb) (a b c d : Int) : Bool := T.kn a b && (T.kn c d && (!T.kn a d && !T.kn b c))
theorem goes (T : Tb) (a b c d : Int) : F_goes [T.e, enc [a, b, c, d]] = W.pure (.bl (T.goes a b c d)) := by
  unfold F_goes defW B_goes
  array_get_dec
  rw [enc_list]
  array_get_dec
  rw [enc_int, enc_int, enc_int, enc_int, is_known, is_known, is_known, is_known]
  array_get_dec
  unfold Tb.goes
  cases T.kn a b <;> cases T.kn c d <;> cases T.kn a d <;> cases T.kn b c <;> rfl
def turnOf (a b c d : Int) : List Int := minC [a, b, c, d] [[b, a, d, c], [c, d, a, b], [d, c, b, a]]
theorem in_turn (a b c d : Int) : F_in_turn [.int a, .int b, .int c, .int d] = W.pure (enc (turnOf a b c d)) := by
  unfold F_in_turn defW B_in_turn
  array_get_dec
  rw [show (D.lst [D.tup [D.int a, D.int b, D.int c, D.int d], D.tup [D.int b, D.int a, D.int d, D.int c], D.tup [D.int c, D.int d, D.int a, D.int b], D.tup [D.int d, D.int c, D.int b, D.int a]]) = D.lst (([a, b, c, d] :: [[b, a, d, c], [c, d, a, b], [d, c, b, a]]).map enc) from rfl, D.min_lst]
  rfl
theorem csort_rise {l : List Int} (h : l.Nodup) : (csort l).Pairwise fun a b => a < b := by
  have h1 := csort_pairwise l
  have h2 : (csort l).Nodup := (csort_perm l).nodup_iff.mpr h
  refine (h1.and h2).imp fun {a b} h => ?_
  obtain ⟨h3, h4⟩ := h
  rw [cle_int, decide_eq_true_eq] at h3
  omega
theorem isLot_csort {T : Tb} {l : List Int} (h : l.Nodup) (hr : ∀ x ∈ l, 0 ≤ x ∧ x < T.1) : T.isLot (csort l) = true := by
  unfold Tb.isLot
  rw [decide_eq_true (csort_rise h), Bool.true_and, List.all_eq_true]
  intro x hx
  have := hr x (mem_csort.mp hx)
  simp [this.1, this.2]
/-- a change: four people, the first the least -/
structure Tb.Chg (T : Tb) (a b c d : Int) : Prop where
  nd : [a, b, c, d].Nodup
  least : a < b ∧ a < c ∧ a < d
  ab : T.kn a b = true
  cd : T.kn c d = true
  ad : T.kn a d = false
  bc : T.kn b c = false
theorem is_change (T : Tb) (hT : T.Ok) (a b c d : Int) (h : T.Chg a b c d) : F_is_change [T.e, enc [a, b, c, d]] = W.pure (.bl true) := by
  have h1 := kn_ok hT h.ab
  have h2 := kn_ok hT h.cd
  unfold F_is_change defW B_is_change
  array_get_dec
  rw [are_integers]
  array_get_dec
  rw [show D.len [enc [a, b, c, d]] = W.pure (.int 4) from rfl]
  array_get_dec
  rw [show D.sorted [enc [a, b, c, d]] = W.pure (.lst ((csort [a, b, c, d]).map enc)) from D.sorted_tup [a, b, c, d] (size_le (by simp))]
  array_get_dec
  rw [show (D.tup ((csort [a, b, c, d]).map enc)) = enc (csort [a, b, c, d]) from rfl, is_lot, isLot_csort h.nd (by
    intro x hx
    simp only [List.mem_cons, List.not_mem_nil, or_false] at hx
    rcases hx with rfl | rfl | rfl | rfl <;> omega), goes]
  rw [show D.min [enc [a, b, c, d]] = W.pure (enc (minC a [b, c, d])) from D.min_tup a [b, c, d]]
  have hmin : minC a [b, c, d] = a := by
    have h3 := minC_le a [b, c, d] a List.mem_cons_self
    have h4 := minC_mem a [b, c, d]
    rw [cle_int, decide_eq_true_eq] at h3
    have := h.least
    simp only [List.mem_cons, List.not_mem_nil, or_false] at h4
    omega
  rw [hmin, show D.ix (enc [a, b, c, d]) (.int 0) = W.pure (.int a) from rfl]
  array_get_dec
  rw [enc_int]
  array_get_dec
  unfold Tb.goes
  rw [h.ab, h.cd, h.ad, h.bc]
  simp
end
end P92

set_option Elab.async false
set_option linter.all false
set_option maxRecDepth 100000
set_option maxHeartbeats 1000000
namespace P92
open PySem PySem.Spec PyProof.Rows L2 PW Cod
section
local macro_rules | `(tactic| array_get_dec) => `(tactic| simp only [W.need_len, W.need_len1, W.need_len2, W.need_len3, W.need_len4, W.need_sz0, W.need_sz1, W.need_sz2, W.need_sz3, W.need_sz4, W.need_sz5, forW_nil, forW_cons, Bool.true_and, Bool.not_true, Bool.not_false, wipeE, W.bind_pure, W.need_T, D.asLst_lst, seqW, W.run_bind, W.run_pure, W.run_need, W.run_fail, W.run_fa, W.run_ite, W.pure_bind, W.fail_bind, W.bind_assoc, W.ite_bind, W.some?_some, getV_zero, getV_succ, startE, List.length_cons, List.length_nil, List.map_cons, List.map_nil, List.cons_append, List.nil_append, List.replicate, List.set_cons_zero, List.set_cons_succ, D.eq_int, D.ne_int, D.add_int, D.add_lst, D.add_tup, D.sub_int, D.mul_int, D.mul_0, D.mul_1, D.mul_one, D.fdiv_int, D.mod_int, D.lt_int, D.le_int, D.gt_int, D.ge_int, D.tr_bl, D.truth_bl, D.int1_int, D.int1_bl, D.asInt_int, D.slice_lst, D.slice_tup, D.ix_lst, D.ix_tup, D.bagI_bag, D.bagC_bag, D.bagSet_bag, D.bagAdd_int, D.isBag_bag, D.len_lst, D.len_tup, D.min_int, D.max_int, D.abs_int, D.neg_int, D.tuple_lst, D.tuple_tup, D.iter_lst, D.iter_tup, D.items_lst, D.items_tup, D.rev_lst, atI_zero, atI_one, atI_two, atI_three, atI_four, atI_neg1, setAll_nil, setAll_cons, Tgt.set_nm, Tgt.set_tp, fin_rt, fin_nx, W.ite_and, W.ite_or, W.ite_andD, W.ite_orD, Bool.false_eq_true, if_true, if_false])
def cp (a b : Int) : Int × Int := (min a b, max a b)
def Tb.bych (T : Tb) (a b c d : Int) : Tb := (T.1, csort ((T.2.filter fun x => !decide (x ∈ [cp a b, cp c d])) ++ [cp a d, cp b c]))
theorem by_change (T : Tb) (hT : T.Ok) (a b c d : Int) : F_by_change [T.e, enc [a, b, c, d]] = W.pure (T.bych a b c d).e := by
  have hl := k_len T hT
  have hf := List.length_filter_le (fun x => !decide (x ∈ [cp a b, cp c d])) T.2
  unfold F_by_change defW B_by_change Tb.e
  array_get_dec
  rw [enc_list]
  array_get_dec
  rw [enc_int, enc_int, enc_int, enc_int]
  array_get_dec
  simp only [minI, maxI]
  rw [show (D.lst [D.tup [D.int (min a b), D.int (max a b)], D.tup [D.int (min c d), D.int (max c d)]]) = D.lst ([cp a b, cp c d].map enc) from rfl]
  rw [lc_nm T.2 enc (fun x => !decide (x ∈ [cp a b, cp c d])) enc (by array_get_dec) rfl (fun x _ => by
    array_get_dec
    rw [show (D.lst [enc (cp a b), enc (cp c d)]) = D.lst ([cp a b, cp c d].map enc) from rfl, D.notIn_lst]
    array_get_dec) (fun x _ _ => rfl)]
  array_get_dec
  rw [show (List.map enc (T.2.filter fun x => !decide (x ∈ [cp a b, cp c d])) ++ [D.tup [D.int (min a d), D.int (max a d)], D.tup [D.int (min b c), D.int (max b c)]]) = ((T.2.filter fun x => !decide (x ∈ [cp a b, cp c d])) ++ [cp a d, cp b c]).map enc from by rw [List.map_append]; rfl]
  rw [W.need_size (by rw [List.length_map, List.length_append]; simp only [List.length_cons, List.length_nil]; omega), D.sorted_lst _ (size_le (by rw [List.length_append]; simp only [List.length_cons, List.length_nil]; omega))]
  array_get_dec
  rfl
theorem changed (T : Tb) (hT : T.Ok) (a b c d : Int) (h : T.Chg a b c d) : F_changed [T.e, enc [a, b, c, d]] = W.pure (T.bych a b c d).e := by
  have e : F_need_change [T.e, enc [a, b, c, d]] = W.pure .non := by
    unfold F_need_change defW B_need_change
    array_get_dec
    rw [is_change T hT a b c d h]
    array_get_dec
  unfold F_changed defW B_changed
  array_get_dec
  rw [e]
  array_get_dec
  rw [by_change T hT]
end
end P92

set_option Elab.async false
set_option linter.all false
set_option maxRecDepth 100000
set_option maxHeartbeats 1000000
namespace P92
open PySem PySem.Spec PyProof.Rows L2 PW Cod GT
/-! ### tables as graphs -/
def Tb.V (T : Tb) : List Int := rngI 0 T.1
theorem Tb.Ok.gr {T : Tb} (hT : T.Ok) : Gr T.V T.kn := ⟨rngI_nodup _ _, fun u v => kn_symm T u v, fun v => by
  cases q : T.kn v v with
  | false => rfl
  | true => exact absurd rfl (kn_ok hT q).2.2.2.2⟩
theorem deg_cnt (T : Tb) (v : Int) : deg T.V T.kn v = (T.cnt v : Int) := sm_count _
theorem mem_V {T : Tb} {v : Int} : v ∈ T.V ↔ 0 ≤ v ∧ v < T.1 := mem_rngI
def inl (l : List Int) (v : Int) : Bool := decide (v ∈ l)
theorem parts_iff {T : Tb} {l : List Int} (hl : ∀ v ∈ l, v ∈ T.V) : T.parts l = true ↔ Wd T.V T.kn (inl l) = 0 := by
  have hoth : ∀ v, v ∈ T.oth l ↔ v ∈ T.V ∧ v ∉ l := fun v => by
    unfold Tb.oth Tb.V
    rw [List.mem_filter]
    simp
  constructor
  · intro h
    have h := Bool.and_eq_true_iff.mp h
    have h1 := h.1
    have h2 := h.2
    unfold Tb.full at h1
    unfold Tb.empt at h2
    refine Wd_of fun u hu v hv => ?_
    unfold wr inl
    by_cases e : u = v
    · simp [e]
    by_cases hul : u ∈ l
    · by_cases hvl : v ∈ l
      · have := List.all_eq_true.mp (List.all_eq_true.mp h1 u hul) v hvl
        simp [e] at this
        simp [hul, hvl, this]
      · simp [hul, hvl]
    · by_cases hvl : v ∈ l
      · simp [hul, hvl]
      · have := List.all_eq_true.mp (List.all_eq_true.mp h2 u ((hoth u).mpr ⟨hu, hul⟩)) v ((hoth v).mpr ⟨hv, hvl⟩)
        simp [e] at this
        simp [hul, hvl, this]
  · intro h
    unfold Tb.parts Tb.full Tb.empt
    rw [Bool.and_eq_true, List.all_eq_true, List.all_eq_true]
    refine ⟨fun u hu => List.all_eq_true.mpr fun v hv => ?_, fun u hu => List.all_eq_true.mpr fun v hv => ?_⟩
    · have := Wd_zero h (hl u hu) (hl v hv)
      unfold wr inl at this
      by_cases e : u = v
      · simp [e]
      · simpa [e, hu, hv] using this
    · have hu := (hoth u).mp hu
      have hv := (hoth v).mp hv
      have := Wd_zero h hu.1 hv.1
      unfold wr inl at this
      by_cases e : u = v
      · simp [e]
      · simpa [e, hu.2, hv.2] using this
theorem enumI_cons {α : Type} (x : α) (xs : List α) : enumI (x :: xs) = (0, x) :: (enumI xs).map fun p => (p.1 + 1, p.2) := by
  unfold enumI
  rw [List.length_cons, List.range_succ_eq_map, List.zipWith_cons_cons, List.zipWith_map_left, List.map_zipWith]
  congr 1
theorem rngI_get (lo hi : Int) (i : Nat) (h : i < (rngI lo hi).length) : (rngI lo hi)[i] = lo + i := by
  simp [rngI]
theorem enumI_map {n : Int} (f : Int → Int) : enumI ((rngI 0 n).map f) = (rngI 0 n).map fun v => (v, f v) := by
  apply List.ext_getElem
  · rw [enumI_length, List.length_map, List.length_map]
  · intro i h1 h2
    have h3 : i < (rngI 0 n).length := by rwa [List.length_map] at h2
    rw [List.getElem_map, rngI_get 0 n i h3]
    simp [enumI, rngI_get]
def hdFrom (k : Int) (ds : List Int) : Nat := ((enumI ds).filter fun p => decide (k + p.1 ≤ p.2)).length
theorem hdFrom_cons (k d : Int) (ds : List Int) : hdFrom k (d :: ds) = (if k ≤ d then 1 else 0) + hdFrom (k + 1) ds := by
  unfold hdFrom
  rw [enumI_cons, List.filter_cons, List.filter_map, Int.add_zero]
  have e : ((fun p : Int × Int => decide (k + p.1 ≤ p.2)) ∘ fun p : Int × Int => (p.1 + 1, p.2)) = fun p : Int × Int => decide (k + 1 + p.1 ≤ p.2) := funext fun p => by
    show decide (k + (p.1 + 1) ≤ p.2) = _
    rw [decide_eq_decide]
    omega
  rw [e]
  by_cases h : k ≤ d
  · simp [h]
    omega
  · simp [h]
theorem hdFrom_zero (k : Int) (ds : List Int) (h : ∀ x ∈ ds, x < k) : hdFrom k ds = 0 := by
  unfold hdFrom
  rw [List.length_eq_zero_iff, List.filter_eq_nil_iff]
  intro p hp
  have h1 : p.2 ∈ (enumI ds).map (·.2) := List.mem_map.mpr ⟨p, hp, rfl⟩
  rw [enumI_snd] at h1
  have h2 := h _ h1
  have h3 : 0 ≤ p.1 := by
    unfold enumI at hp
    obtain ⟨i, hi, e⟩ := List.mem_iff_getElem.mp hp
    rw [List.getElem_zipWith] at e
    rw [← e]
    simp
  simp
  omega
theorem hdFrom_spec (ds : List Int) (hp : ds.Pairwise fun a b => b ≤ a) : ∀ k : Int, hdFrom k ds ≤ ds.length ∧ (∀ x ∈ ds.take (hdFrom k ds), k + (hdFrom k ds : Int) - 1 ≤ x) ∧ ∀ x ∈ ds.drop (hdFrom k ds), x ≤ k + (hdFrom k ds : Int) - 1 := by
  induction ds with
  | nil =>
    intro k
    simp [hdFrom, enumI]
  | cons d ds ih =>
    intro k
    obtain ⟨hd, hp⟩ := List.pairwise_cons.mp hp
    obtain ⟨h1, h2, h3⟩ := ih hp (k + 1)
    rw [hdFrom_cons]
    by_cases q : k ≤ d
    · rw [if_pos q, Nat.add_comm 1 (hdFrom (k + 1) ds), List.take_succ_cons, List.drop_succ_cons, List.length_cons]
      refine ⟨by omega, fun x hx => ?_, fun x hx => ?_⟩
      · rcases List.mem_cons.mp hx with rfl | hx
        · by_cases z : hdFrom (k + 1) ds = 0
          · omega
          · have hne : (ds.take (hdFrom (k + 1) ds)) ≠ [] := by
              intro e
              have := congrArg List.length e
              rw [List.length_take, List.length_nil] at this
              omega
            obtain ⟨y, hy⟩ := List.exists_mem_of_ne_nil _ hne
            have := h2 y hy
            have := hd y (List.mem_of_mem_take hy)
            omega
        · have := h2 x hx
          omega
      · have := h3 x hx
        omega
    · have hz : hdFrom (k + 1) ds = 0 := hdFrom_zero _ _ fun x hx => by
        have := hd x hx
        omega
      rw [if_neg q, hz]
      refine ⟨by omega, fun x hx => by simp at hx, fun x hx => ?_⟩
      rcases List.mem_cons.mp hx with rfl | hx
      · omega
      · have := hd x hx
        omega
theorem cle_fst {a b : Int} {x y : Int} (h : cle (a, x) (b, y) = true) : a ≤ b := by
  have e : cle (a, x) (b, y) = cle [a, x] [b, y] := rfl
  rw [e] at h
  exact cle_head h
theorem ord_perm (T : Tb) : T.ord.Perm T.V := by
  unfold Tb.ord Tb.counts
  rw [enumI_map, List.map_map]
  refine ((csort_perm _).map _).trans ?_
  rw [List.map_map]
  have e : ((fun x : Int × Int => x.2) ∘ ((fun p : Int × Int => (0 - p.2, p.1)) ∘ fun v => (v, (T.cnt v : Int)))) = _root_.id := rfl
  rw [e, List.map_id]
  exact List.Perm.refl _
theorem ord_cnt (T : Tb) : T.ord.map (fun v => (T.cnt v : Int)) = slist T.counts := by
  have hp : (T.ord.map fun v => (T.cnt v : Int)).Perm (slist T.counts) := by
    refine ((ord_perm T).map _).trans ?_
    unfold slist
    refine List.Perm.trans ?_ (List.reverse_perm _).symm
    exact (csort_perm _).symm
  refine List.Perm.eq_of_pairwise (le := fun a b => b ≤ a) (fun a b _ _ h1 h2 => by omega) ?_ ?_ hp
  · have hmem : ∀ p ∈ csort ((enumI T.counts).map fun p => (0 - p.2, p.1)), (T.cnt p.2 : Int) = -p.1 := fun p hp => by
      have hp := mem_csort.mp hp
      unfold Tb.counts at hp
      rw [enumI_map, List.map_map] at hp
      obtain ⟨v, _, rfl⟩ := List.mem_map.mp hp
      show (T.cnt v : Int) = -(0 - (T.cnt v : Int))
      omega
    unfold Tb.ord
    rw [List.map_map, List.pairwise_map]
    refine List.Pairwise.imp_of_mem (fun {a b} ha hb h => ?_) (csort_pairwise _)
    have h1 := hmem a ha
    have h2 := hmem b hb
    have h3 := cle_fst h
    show (T.cnt b.2 : Int) ≤ (T.cnt a.2 : Int)
    omega
  · unfold slist
    rw [List.pairwise_reverse]
    refine (csort_pairwise _).imp fun {a b} h => ?_
    rw [cle_int, decide_eq_true_eq] at h
    exact h
theorem hdOf_from (ds : List Int) : hdOf ds = hdFrom 0 ds := by
  unfold hdOf hdFrom
  congr 2
  funext p
  rw [Int.zero_add]
theorem top_mem {T : Tb} {v : Int} : v ∈ T.top ↔ v ∈ T.ord.take T.head := mem_csort
theorem ord_nodup (T : Tb) : T.ord.Nodup := (ord_perm T).nodup_iff.mpr (rngI_nodup _ _)
theorem top_V {T : Tb} : ∀ v ∈ T.top, v ∈ T.V := fun v hv => (ord_perm T).mem_iff.mp (List.mem_of_mem_take (top_mem.mp hv))
theorem top_sum (T : Tb) (f : Int → Int) : sm T.V (fun v => if inl T.top v then f v else 0) = sm (T.ord.take T.head) f := by
  rw [← sm_perm (ord_perm T)]
  conv => lhs; rw [← List.take_append_drop T.head T.ord]
  rw [sm_append]
  have hnd := ord_nodup T
  rw [← List.take_append_drop T.head T.ord] at hnd
  have e1 : sm (T.ord.take T.head) (fun v => if inl T.top v then f v else 0) = sm (T.ord.take T.head) f := sm_congr fun v hv => by
    have : inl T.top v = true := decide_eq_true (top_mem.mpr hv)
    rw [if_pos this]
  have e2 : sm (T.ord.drop T.head) (fun v => if inl T.top v then f v else 0) = sm (T.ord.drop T.head) (fun _ => 0) := sm_congr fun v hv => by
    have : ¬ inl T.top v = true := fun h => by
      have h := top_mem.mp (of_decide_eq_true h)
      exact (List.nodup_append.mp hnd).2.2 v h v hv rfl
    rw [if_neg this]
  rw [e1, e2, sm_zero, Int.add_zero]
theorem sm_map_sum (xs : List Int) (f : Int → Int) : (xs.map f).sum = sm xs f := rfl
theorem head_le (T : Tb) : T.head ≤ T.ord.length := by
  have := hdOf_le (slist T.counts)
  rw [← ord_cnt, List.length_map] at this
  unfold Tb.head
  rw [← ord_cnt]
  exact this
theorem top_siz (T : Tb) : siz T.V (inl T.top) = (T.head : Int) := by
  have h := top_sum T (fun _ => 1)
  have e : (fun v => if inl T.top v then (1 : Int) else 0) = fun v => ind (inl T.top v) := rfl
  rw [e] at h
  unfold siz
  rw [h, sm_const, List.length_take, Nat.min_eq_left (head_le T)]
  omega
theorem lack_top {T : Tb} (hT : T.Ok) : Wd T.V T.kn (inl T.top) = T.lack := by
  rw [Wd_eq hT.gr, top_siz]
  have e1 : (sm T.V fun u => ind (inl T.top u) * deg T.V T.kn u) = sm (T.ord.take T.head) fun v => (T.cnt v : Int) := by
    rw [← top_sum]
    refine sm_congr fun v _ => ?_
    rw [deg_cnt]
    unfold ind
    split <;> simp
  have e2 : sm T.V (deg T.V T.kn) = sm (T.ord.take T.head) (fun v => (T.cnt v : Int)) + sm (T.ord.drop T.head) (fun v => (T.cnt v : Int)) := by
    rw [← sm_append, List.take_append_drop, sm_perm (ord_perm T)]
    exact sm_congr fun v _ => deg_cnt T v
  rw [e1, e2]
  unfold Tb.lack lackOf
  rw [show hdOf (slist T.counts) = T.head from rfl, ← ord_cnt, ← List.map_take, ← List.map_drop, sm_map_sum, sm_map_sum]
  generalize sm (T.ord.take T.head) (fun v => (T.cnt v : Int)) = x
  generalize sm (T.ord.drop T.head) (fun v => (T.cnt v : Int)) = y
  grind
theorem is_lack {T : Tb} (hT : T.Ok) : IsLack T.V T.kn T.lack := by
  refine ⟨⟨inl T.top, fun v hv => top_V v (of_decide_eq_true hv), lack_top hT⟩, fun s => ?_⟩
  rw [← lack_top hT]
  have hsp := hdFrom_spec (slist T.counts) (by
    unfold slist
    rw [List.pairwise_reverse]
    refine (csort_pairwise _).imp fun {a b} h => ?_
    rw [cle_int, decide_eq_true_eq] at h
    exact h) 0
  rw [← hdOf_from, show hdOf (slist T.counts) = T.head from rfl, ← ord_cnt, ← List.map_take, ← List.map_drop] at hsp
  rw [Wd_opt hT.gr (inl T.top) ((T.head : Int) - 1) (fun v _ hs => ?_) (fun v hv hs => ?_) (.inl (by rw [top_siz]; omega))]
  · exact Wd_ge hT.gr s _
  · have h := hsp.2.1 (T.cnt v : Int) (List.mem_map.mpr ⟨v, top_mem.mp (of_decide_eq_true hs), rfl⟩)
    rw [deg_cnt]
    omega
  · have hd : v ∈ T.ord.drop T.head := by
      have := (ord_perm T).mem_iff.mpr hv
      rw [← List.take_append_drop T.head T.ord] at this
      rcases List.mem_append.mp this with h | h
      · exact absurd (top_mem.mpr h) (of_decide_eq_false hs)
      · exact h
    have h := hsp.2.2 (T.cnt v : Int) (List.mem_map.mpr ⟨v, hd, rfl⟩)
    rw [deg_cnt]
    omega
end P92

set_option Elab.async false
set_option linter.all false
set_option maxRecDepth 100000
set_option maxHeartbeats 1000000
namespace P92
open PySem PySem.Spec PyProof.Rows L2 PW Cod
section
local macro_rules | `(tactic| array_get_dec) => `(tactic| simp only [W.need_len, W.need_len1, W.need_len2, W.need_len3, W.need_len4, W.need_sz0, W.need_sz1, W.need_sz2, W.need_sz3, W.need_sz4, W.need_sz5, forW_nil, forW_cons, Bool.true_and, Bool.not_true, Bool.not_false, wipeE, W.bind_pure, W.need_T, D.asLst_lst, seqW, W.run_bind, W.run_pure, W.run_need, W.run_fail, W.run_fa, W.run_ite, W.pure_bind, W.fail_bind, W.bind_assoc, W.ite_bind, W.some?_some, getV_zero, getV_succ, startE, List.length_cons, List.length_nil, List.map_cons, List.map_nil, List.cons_append, List.nil_append, List.replicate, List.set_cons_zero, List.set_cons_succ, D.eq_int, D.ne_int, D.add_int, D.add_lst, D.add_tup, D.sub_int, D.mul_int, D.mul_0, D.mul_1, D.mul_one, D.fdiv_int, D.mod_int, D.lt_int, D.le_int, D.gt_int, D.ge_int, D.tr_bl, D.truth_bl, D.int1_int, D.int1_bl, D.asInt_int, D.slice_lst, D.slice_tup, D.ix_lst, D.ix_tup, D.bagI_bag, D.bagC_bag, D.bagSet_bag, D.bagAdd_int, D.isBag_bag, D.len_lst, D.len_tup, D.min_int, D.max_int, D.abs_int, D.neg_int, D.tuple_lst, D.tuple_tup, D.iter_lst, D.iter_tup, D.items_lst, D.items_tup, D.rev_lst, atI_zero, atI_one, atI_two, atI_three, atI_four, atI_neg1, setAll_nil, setAll_cons, Tgt.set_nm, Tgt.set_tp, fin_rt, fin_nx, W.ite_and, W.ite_or, W.ite_andD, W.ite_orD, Bool.false_eq_true, if_true, if_false])
/-- rows that are changes -/
def Tb.AllChg (T : Tb) (L : List (List Int)) : Prop := ∀ c ∈ L, ∃ a b c' d, c = [a, b, c', d] ∧ T.Chg a b c' d
theorem turn_chg (T : Tb) {a b c d : Int} (hn : [a, b, c, d].Nodup) (hg : T.goes a b c d = true) : ∃ a' b' c' d', turnOf a b c d = [a', b', c', d'] ∧ T.Chg a' b' c' d' := by
  unfold Tb.goes at hg
  simp only [Bool.and_eq_true, Bool.not_eq_true'] at hg
  obtain ⟨h1, h2, h3, h4⟩ := hg
  have hle := minC_le [a, b, c, d] [[b, a, d, c], [c, d, a, b], [d, c, b, a]]
  have hm := minC_mem [a, b, c, d] [[b, a, d, c], [c, d, a, b], [d, c, b, a]]
  rw [show minC [a, b, c, d] [[b, a, d, c], [c, d, a, b], [d, c, b, a]] = turnOf a b c d from rfl] at hle hm
  simp only [List.nodup_cons, List.mem_cons, List.not_mem_nil, or_false, not_or, List.nodup_nil, and_true, not_false_eq_true] at hn
  have k1 := hle [a, b, c, d] (by simp)
  have k2 := hle [b, a, d, c] (by simp)
  have k3 := hle [c, d, a, b] (by simp)
  have k4 := hle [d, c, b, a] (by simp)
  simp only [List.mem_cons, List.not_mem_nil, or_false] at hm
  rcases hm with hm | hm | hm | hm <;> rw [hm] at k1 k2 k3 k4 ⊢ <;> (have k1 := cle_head k1; have k2 := cle_head k2; have k3 := cle_head k3; have k4 := cle_head k4)
  · exact ⟨a, b, c, d, rfl, by simp; omega, by omega, h1, h2, h3, h4⟩
  · exact ⟨b, a, d, c, rfl, by simp; omega, by omega, by rw [kn_symm]; exact h1, by rw [kn_symm]; exact h2, h4, h3⟩
  · exact ⟨c, d, a, b, rfl, by simp; omega, by omega, h2, h1, by rw [kn_symm]; exact h4, by rw [kn_symm]; exact h3⟩
  · exact ⟨d, c, b, a, rfl, by simp; omega, by omega, by rw [kn_symm]; exact h2, by rw [kn_symm]; exact h1, by rw [kn_symm]; exact h3, by rw [kn_symm]; exact h4⟩
end
end P92

set_option Elab.async false
set_option linter.all false
set_option maxRecDepth 100000
set_option maxHeartbeats 1000000
namespace P92
open PySem PySem.Spec PyProof.Rows L2 PW Cod
section
local macro_rules | `(tactic| array_get_dec) => `(tactic| simp only [W.need_len, W.need_len1, W.need_len2, W.need_len3, W.need_len4, W.need_sz0, W.need_sz1, W.need_sz2, W.need_sz3, W.need_sz4, W.need_sz5, Bool.true_and, Bool.not_true, Bool.not_false, wipeE, W.bind_pure, W.need_T, D.asLst_lst, seqW, W.run_bind, W.run_pure, W.run_need, W.run_fail, W.run_fa, W.run_ite, W.pure_bind, W.fail_bind, W.bind_assoc, W.ite_bind, W.some?_some, getV_zero, getV_succ, startE, List.length_cons, List.length_nil, List.map_cons, List.map_nil, List.cons_append, List.nil_append, List.replicate, List.set_cons_zero, List.set_cons_succ, D.eq_int, D.ne_int, D.add_int, D.add_lst, D.add_tup, D.sub_int, D.mul_int, D.mul_0, D.mul_1, D.mul_one, D.fdiv_int, D.mod_int, D.lt_int, D.le_int, D.gt_int, D.ge_int, D.tr_bl, D.truth_bl, D.int1_int, D.int1_bl, D.asInt_int, D.slice_lst, D.slice_tup, D.ix_lst, D.ix_tup, D.bagI_bag, D.bagC_bag, D.bagSet_bag, D.bagAdd_int, D.isBag_bag, D.len_lst, D.len_tup, D.min_int, D.max_int, D.abs_int, D.neg_int, D.tuple_lst, D.tuple_tup, D.iter_lst, D.iter_tup, D.items_lst, D.items_tup, D.rev_lst, atI_zero, atI_one, atI_two, atI_three, atI_four, atI_neg1, setAll_nil, setAll_cons, Tgt.set_nm, Tgt.set_tp, fin_rt, fin_nx, W.ite_and, W.ite_or, W.ite_andD, W.ite_orD, Bool.false_eq_true, if_true, if_false])
theorem in_turn_ix {β : Type} (a b c d : Int) (f : D → W β) : (((enc [a, b, c, d]).ix (D.int 0)).bind fun a_6 => ((enc [a, b, c, d]).ix (D.int 1)).bind fun a_7 => ((enc [a, b, c, d]).ix (D.int 2)).bind fun a_8 => ((enc [a, b, c, d]).ix (D.int 3)).bind fun a_9 => (F_in_turn [a_6, a_7, a_8, a_9]).bind f) = f (enc (turnOf a b c d)) := by
  rw [enc_list]
  array_get_dec
  rw [enc_int, enc_int, enc_int, enc_int, in_turn]
  rfl
theorem changes (T : Tb) (hT : T.Ok) : ∃ L : List (List Int), F_changes [T.e] = W.pure (enc L) ∧ T.AllChg L := by
  have hkl := k_len T hT
  unfold F_changes defW B_changes
  array_get_dec
  rw [show T.e = .tup [.int T.1, .tup (T.2.map enc)] from rfl]
  array_get_dec
  refine for_exA (e := enc) (fun done ρ => ∃ ks : List (List Int), ks.length ≤ done.length * 100 ∧ T.AllChg ks ∧ ∃ o2 o3 o4 o5 o6 o7, ρ = [some T.e, some (.dT (rowK ks)), o2, o3, o4, o5, o6, o7]) T.2 _ ⟨[], by simp, fun c hc => absurd hc List.not_mem_nil, _, _, _, _, _, _, rfl⟩ (fun done x rest ρ hx ⟨ks, hl, hk, o2, o3, o4, o5, o6, o7, hρ⟩ => by
    subst hρ
    have hdl : done.length ≤ 36 := by
      have e := congrArg List.length hx
      rw [List.length_append, List.length_cons] at e
      omega
    have hxm : x ∈ T.2 := by rw [← hx]; simp
    rw [enc_pair]
    array_get_dec
    rw [show T.e = .tup [.int T.1, .tup (T.2.map enc)] from rfl]
    array_get_dec
    refine for_last (e := enc) (fun dn ρ => ∃ ks : List (List Int), ks.length ≤ done.length * 100 + dn.length * 2 ∧ T.AllChg ks ∧ ∃ o4 o5 o6 o7, ρ = [some T.e, some (.dT (rowK ks)), some (enc x.1), some (enc x.2), o4, o5, o6, o7]) T.2 _ ⟨ks, by simpa using hl, hk, _, _, _, _, rfl⟩ (fun dn y rest2 ρ hx2 ⟨ks, hl, hk, o4, o5, o6, o7, hρ⟩ => by
      subst hρ
      have hdl2 : dn.length ≤ 36 := by
        have e := congrArg List.length hx2
        rw [List.length_append, List.length_cons] at e
        omega
      rw [enc_pair]
      array_get_dec
      rw [show [D.tup [enc x.1, enc x.2, enc y.1, enc y.2], D.tup [enc x.1, enc x.2, enc y.2, enc y.1]] = [[x.1, x.2, y.1, y.2], [x.1, x.2, y.2, y.1]].map enc from rfl]
      refine for_last (e := enc) (fun d3 ρ => ∃ ks : List (List Int), ks.length ≤ done.length * 100 + dn.length * 2 + d3.length ∧ T.AllChg ks ∧ ∃ o6 o7, ρ = [some T.e, some (.dT (rowK ks)), some (enc x.1), some (enc x.2), some (enc y.1), some (enc y.2), o6, o7]) [[x.1, x.2, y.1, y.2], [x.1, x.2, y.2, y.1]] _ ⟨ks, by simpa using hl, hk, _, _, rfl⟩ (fun d3 r rest3 ρ hx3 ⟨ks, hl, hk, o6, o7, hρ⟩ => by
        subst hρ
        have hd3 : d3.length ≤ 2 := by
          have e := congrArg List.length hx3
          rw [List.length_append, List.length_cons] at e
          simp at e
          omega
        have hr : ∃ a b c d : Int, r = [a, b, c, d] := by
          have : r ∈ [[x.1, x.2, y.1, y.2], [x.1, x.2, y.2, y.1]] := by rw [← hx3]; simp
          simp only [List.mem_cons, List.not_mem_nil, or_false] at this
          rcases this with h | h
          · exact ⟨_, _, _, _, h⟩
          · exact ⟨_, _, _, _, h⟩
        obtain ⟨a, b, c, d, rfl⟩ := hr
        array_get_dec
        rw [dc_true (xs := [a, b, c, d]) rfl rfl (by simp) (fun _ => rfl) (fun _ => rfl) (fun _ => rfl)]
        array_get_dec
        rw [D.len_trueK]
        array_get_dec
        rw [goes, in_turn_ix]
        array_get_dec
        by_cases h4 : ([a, b, c, d].foldl addNew []).length = 4
        · rw [decide_eq_true (show (([a, b, c, d].foldl addNew []).length : Int) = 4 by omega), if_pos rfl]
          by_cases hg : T.goes a b c d = true
          · rw [if_pos hg]
            obtain ⟨a', b', c', d', e1, e2⟩ := turn_chg T (four_apart h4) hg
            rw [D.put_row ks _ (by omega)]
            refine ⟨_, .inl rfl, addRow ks (turnOf a b c d), ?_, fun c hc => ?_, _, _, rfl⟩
            · have := addRow_len ks (turnOf a b c d)
              rw [List.length_append, List.length_cons, List.length_nil]
              omega
            · rcases mem_addRow hc with hc | hc
              · exact hk c hc
              · rw [hc]; exact ⟨a', b', c', d', e1, e2⟩
          · rw [if_neg hg]
            exact ⟨_, .inl rfl, ks, by rw [List.length_append]; omega, hk, _, _, rfl⟩
        · rw [decide_eq_false (show ¬ (([a, b, c, d].foldl addNew []).length : Int) = 4 by omega), if_neg (by simp)]
          exact ⟨_, .inl rfl, ks, by rw [List.length_append]; omega, hk, _, _, rfl⟩) (fun ρ' ⟨ks, hl, hk, o6, o7, hρ⟩ => ⟨ks, by rw [List.length_append]; simp at hl ⊢; omega, hk, _, _, _, _, hρ⟩)) (fun ρ' ⟨ks, hl, hk, o4, o5, o6, o7, hρ⟩ => ⟨ks, by rw [List.length_append]; simp; omega, hk, _, _, _, _, _, _, hρ⟩)) (fun ρ' ⟨ks, hl, hk, o2, o3, o4, o5, o6, o7, hρ⟩ => by
      subst hρ
      refine ⟨csort ks, ?_, fun c hc => hk c (mem_csort.mp hc)⟩
      array_get_dec
      rw [D.sorted_row ks (by omega)]
      array_get_dec
      rfl)
end
end P92

set_option Elab.async false
set_option linter.all false
set_option maxRecDepth 100000
set_option maxHeartbeats 1000000
namespace P92
open PySem PySem.Spec PyProof.Rows L2 PW Cod
section
local macro_rules | `(tactic| array_get_dec) => `(tactic| simp only [W.need_len, W.need_len1, W.need_len2, W.need_len3, W.need_len4, W.need_sz0, W.need_sz1, W.need_sz2, W.need_sz3, W.need_sz4, W.need_sz5, forW_nil, forW_cons, Bool.true_and, Bool.not_true, Bool.not_false, wipeE, W.bind_pure, W.need_T, D.asLst_lst, seqW, W.run_bind, W.run_pure, W.run_need, W.run_fail, W.run_fa, W.run_ite, W.pure_bind, W.fail_bind, W.bind_assoc, W.ite_bind, W.some?_some, getV_zero, getV_succ, startE, List.length_cons, List.length_nil, List.map_cons, List.map_nil, List.cons_append, List.nil_append, List.replicate, List.set_cons_zero, List.set_cons_succ, D.eq_int, D.ne_int, D.add_int, D.add_lst, D.add_tup, D.sub_int, D.mul_int, D.mul_0, D.mul_1, D.mul_one, D.fdiv_int, D.mod_int, D.lt_int, D.le_int, D.gt_int, D.ge_int, D.tr_bl, D.truth_bl, D.int1_int, D.int1_bl, D.asInt_int, D.slice_lst, D.slice_tup, D.ix_lst, D.ix_tup, D.bagI_bag, D.bagC_bag, D.bagSet_bag, D.bagAdd_int, D.isBag_bag, D.len_lst, D.len_tup, D.min_int, D.max_int, D.abs_int, D.neg_int, D.tuple_lst, D.tuple_tup, D.iter_lst, D.iter_tup, D.items_lst, D.items_tup, D.rev_lst, atI_zero, atI_one, atI_two, atI_three, atI_four, atI_neg1, setAll_nil, setAll_cons, Tgt.set_nm, Tgt.set_tp, fin_rt, fin_nx, W.ite_and, W.ite_or, W.ite_andD, W.ite_orD, Bool.false_eq_true, if_true, if_false])
theorem law_alike (d : D) (ha : d.alk = true) (hn : d.nodes ≤ 100000) {Q : D → Prop} (q : Q (.bl true)) : (F__law_alike [d, d]).run Q := by
  unfold F__law_alike defW B__law_alike
  array_get_dec
  refine while_run (fun n ρ => ∃ (ps : List D) (at' : Nat) (o4 o5 : Option D), ρ = [some d, some d, some (.lst (ps.map dup)), some (.int at'), o4, o5] ∧ D.alkL ps = true ∧ D.nodesL (ps.drop at') ≤ n ∧ at' + D.nodesL (ps.drop at') ≤ d.nodes ∧ at' ≤ ps.length) (n := d.nodes) ⟨[d], 0, none, none, rfl, by rw [D.alkL, ha]; rfl, by simp [D.nodesL], by simp [D.nodesL], by simp⟩ ?_
  rintro n ρ ⟨ps, at', o4, o5, rfl, hp, h1, h2, h3⟩
  array_get_dec
  rw [List.length_map]
  by_cases hlt : at' < ps.length
  · have hx : ps.drop at' = ps[at'] :: ps.drop (at' + 1) := List.drop_eq_getElem_cons hlt
    have hxa : (ps[at']).alk = true := D.alkL_iff.mp hp _ (List.getElem_mem hlt)
    have hget : atI (ps.map dup) (at' : Int) = some (dup ps[at']) := by rw [PW.atI_nat, List.getElem?_map, List.getElem?_eq_getElem hlt]; rfl
    rw [hx, D.nodesL] at h1 h2
    rw [decide_eq_true (show (at' : Int) < (ps.length : Int) by omega), if_pos rfl, hget]
    generalize ps[at'] = x at hxa h1 h2
    have e1 : ((at' : Int) + 1) = ((at' + 1 : Nat) : Int) := by omega
    have stay : x.nodes = 1 → ∃ m, m < n ∧ ∃ (ps' : List D) (at'' : Nat) (o4 o5 : Option D), [some d, some d, some (D.lst (ps.map dup)), some (.int ((at' : Int) + 1)), some x, some x] = [some d, some d, some (.lst (ps'.map dup)), some (.int at''), o4, o5] ∧ D.alkL ps' = true ∧ D.nodesL (ps'.drop at'') ≤ m ∧ at'' + D.nodesL (ps'.drop at'') ≤ d.nodes ∧ at'' ≤ ps'.length := fun hx1 =>
      ⟨D.nodesL (ps.drop (at' + 1)), by omega, ps, at' + 1, some x, some x, by rw [e1], hp, by omega, by omega, by omega⟩
    have hlen := D.len_nodes (ps.drop (at' + 1))
    rw [List.length_drop] at hlen
    have more : ∀ xs : List D, x.nodes = D.nodesL xs + 1 → D.alkL xs = true → ∃ m, m < n ∧ ∃ (ps' : List D) (at'' : Nat) (o4 o5 : Option D), [some d, some d, some (D.lst (ps.map dup ++ xs.map dup)), some (.int ((at' : Int) + 1)), some x, some x] = [some d, some d, some (.lst (ps'.map dup)), some (.int at''), o4, o5] ∧ D.alkL ps' = true ∧ D.nodesL (ps'.drop at'') ≤ m ∧ at'' + D.nodesL (ps'.drop at'') ≤ d.nodes ∧ at'' ≤ ps'.length := fun xs hx1 hxs => by
      have e2 : D.nodesL ((ps ++ xs).drop (at' + 1)) = D.nodesL (ps.drop (at' + 1)) + D.nodesL xs := by rw [List.drop_append_of_le_length (by omega), D.nodesL_append]
      refine ⟨D.nodesL (ps.drop (at' + 1)) + D.nodesL xs, by omega, ps ++ xs, at' + 1, some x, some x, by rw [e1, List.map_append], D.alkL_iff.mpr fun y hy => ?_, by omega, by omega, by rw [List.length_append]; omega⟩
      rcases List.mem_append.mp hy with hy | hy
      · exact D.alkL_iff.mp hp y hy
      · exact D.alkL_iff.mp hxs y hy
    have hset : ∀ ρ : PW.Env, (Tgt.tp [4, 5]).set (dup x) ρ = W.pure ((ρ.set 4 (some x)).set 5 (some x)) := fun _ => rfl
    simp only [hset, W.some?_some, W.run_bind, W.run_pure, W.pure_bind]
    array_get_dec
    cases x with
    | non => simp only [D.isi_non_bool, D.isi_non_str, D.isi_non_tuple, D.isi_non_tl, D.isi_bl_bool, D.isi_bl_str, D.isi_bl_tuple, D.isi_bl_tl, D.isi_int_bool, D.isi_int_str, D.isi_int_tuple, D.isi_int_tl, D.isi_str_bool, D.isi_str_str, D.isi_str_tuple, D.isi_str_tl, D.isi_tup_bool, D.isi_tup_str, D.isi_tup_tuple, D.isi_tup_tl, D.isi_lst_bool, D.isi_lst_str, D.isi_lst_tuple, D.isi_lst_tl, W.pure_bind, D.ne_bb, D.tr_bl, D.truth_bl, bne_self_eq_false, if_false, Bool.false_eq_true, D.ne_non, W.run_pure, W.run_bind]; exact stay rfl
    | bl b => simp only [D.isi_non_bool, D.isi_non_str, D.isi_non_tuple, D.isi_non_tl, D.isi_bl_bool, D.isi_bl_str, D.isi_bl_tuple, D.isi_bl_tl, D.isi_int_bool, D.isi_int_str, D.isi_int_tuple, D.isi_int_tl, D.isi_str_bool, D.isi_str_str, D.isi_str_tuple, D.isi_str_tl, D.isi_tup_bool, D.isi_tup_str, D.isi_tup_tuple, D.isi_tup_tl, D.isi_lst_bool, D.isi_lst_str, D.isi_lst_tuple, D.isi_lst_tl, W.pure_bind, D.ne_bb, D.tr_bl, D.truth_bl, bne_self_eq_false, if_false, Bool.false_eq_true, D.ne_bl, W.run_pure, W.run_bind]; exact stay rfl
    | int b => simp only [D.isi_non_bool, D.isi_non_str, D.isi_non_tuple, D.isi_non_tl, D.isi_bl_bool, D.isi_bl_str, D.isi_bl_tuple, D.isi_bl_tl, D.isi_int_bool, D.isi_int_str, D.isi_int_tuple, D.isi_int_tl, D.isi_str_bool, D.isi_str_str, D.isi_str_tuple, D.isi_str_tl, D.isi_tup_bool, D.isi_tup_str, D.isi_tup_tuple, D.isi_tup_tl, D.isi_lst_bool, D.isi_lst_str, D.isi_lst_tuple, D.isi_lst_tl, W.pure_bind, D.ne_bb, D.tr_bl, D.truth_bl, bne_self_eq_false, if_false, Bool.false_eq_true, D.ne_int, W.run_pure, W.run_bind, decide_true, Bool.not_true]; exact stay rfl
    | str b => simp only [D.isi_non_bool, D.isi_non_str, D.isi_non_tuple, D.isi_non_tl, D.isi_bl_bool, D.isi_bl_str, D.isi_bl_tuple, D.isi_bl_tl, D.isi_int_bool, D.isi_int_str, D.isi_int_tuple, D.isi_int_tl, D.isi_str_bool, D.isi_str_str, D.isi_str_tuple, D.isi_str_tl, D.isi_tup_bool, D.isi_tup_str, D.isi_tup_tuple, D.isi_tup_tl, D.isi_lst_bool, D.isi_lst_str, D.isi_lst_tuple, D.isi_lst_tl, W.pure_bind, D.ne_bb, D.tr_bl, D.truth_bl, bne_self_eq_false, if_false, Bool.false_eq_true, D.ne_str b hxa, W.run_pure, W.run_bind]; exact stay rfl
    | tup b =>
      have hb := D.len_nodes b
      rw [D.nodes] at h2
      simp only [D.isi_non_bool, D.isi_non_str, D.isi_non_tuple, D.isi_non_tl, D.isi_bl_bool, D.isi_bl_str, D.isi_bl_tuple, D.isi_bl_tl, D.isi_int_bool, D.isi_int_str, D.isi_int_tuple, D.isi_int_tl, D.isi_str_bool, D.isi_str_str, D.isi_str_tuple, D.isi_str_tl, D.isi_tup_bool, D.isi_tup_str, D.isi_tup_tuple, D.isi_tup_tl, D.isi_lst_bool, D.isi_lst_str, D.isi_lst_tuple, D.isi_lst_tl, W.pure_bind, D.ne_bb, D.tr_bl, D.truth_bl, bne_self_eq_false, if_false, if_true, Bool.false_eq_true, D.len_tup, D.ne_int, decide_true, Bool.not_true, (zip_dup b).1, W.run_pure, W.run_bind, D.asLst_lst, W.run_need, List.length_map]
      refine ⟨size_le (by omega), more b rfl hxa⟩
    | lst b =>
      have hb := D.len_nodes b
      rw [D.nodes] at h2
      simp only [D.isi_non_bool, D.isi_non_str, D.isi_non_tuple, D.isi_non_tl, D.isi_bl_bool, D.isi_bl_str, D.isi_bl_tuple, D.isi_bl_tl, D.isi_int_bool, D.isi_int_str, D.isi_int_tuple, D.isi_int_tl, D.isi_str_bool, D.isi_str_str, D.isi_str_tuple, D.isi_str_tl, D.isi_tup_bool, D.isi_tup_str, D.isi_tup_tuple, D.isi_tup_tl, D.isi_lst_bool, D.isi_lst_str, D.isi_lst_tuple, D.isi_lst_tl, W.pure_bind, D.ne_bb, D.tr_bl, D.truth_bl, bne_self_eq_false, if_false, if_true, Bool.false_eq_true, D.len_lst, D.ne_int, decide_true, Bool.not_true, (zip_dup b).2, W.run_pure, W.run_bind, D.asLst_lst, W.run_need, List.length_map]
      refine ⟨size_le (by omega), more b rfl hxa⟩
    | _ => cases hxa
  · rw [decide_eq_false (show ¬ (at' : Int) < (ps.length : Int) by omega), if_neg (by simp)]
    exact q
end
end P92

set_option Elab.async false
set_option linter.all false
set_option maxRecDepth 100000
set_option maxHeartbeats 1000000
namespace P92
open PySem PySem.Spec PyProof.Rows L2 PW Cod
section
local macro_rules | `(tactic| array_get_dec) => `(tactic| try simp only [W.need_len, W.need_len1, W.need_len2, W.need_len3, W.need_len4, W.need_sz0, W.need_sz1, W.need_sz2, W.need_sz3, W.need_sz4, W.need_sz5, forW_nil, forW_cons, Bool.true_and, Bool.not_true, Bool.not_false, wipeE, W.bind_pure, W.need_T, D.asLst_lst, seqW, W.run_bind, W.run_pure, W.run_need, W.run_fail, W.run_fa, W.run_ite, W.pure_bind, W.fail_bind, W.bind_assoc, W.ite_bind, W.some?_some, getV_zero, getV_succ, startE, List.length_cons, List.length_nil, List.map_cons, List.map_nil, List.cons_append, List.nil_append, List.replicate, List.set_cons_zero, List.set_cons_succ, D.eq_int, D.ne_int, D.add_int, D.add_lst, D.add_tup, D.sub_int, D.mul_int, D.mul_0, D.mul_1, D.mul_one, D.fdiv_int, D.mod_int, D.lt_int, D.le_int, D.gt_int, D.ge_int, D.tr_bl, D.truth_bl, D.int1_int, D.int1_bl, D.asInt_int, D.slice_lst, D.slice_tup, D.ix_lst, D.ix_tup, D.bagI_bag, D.bagC_bag, D.bagSet_bag, D.bagAdd_int, D.isBag_bag, D.len_lst, D.len_tup, D.min_int, D.max_int, D.abs_int, D.neg_int, D.tuple_lst, D.tuple_tup, D.iter_lst, D.iter_tup, D.items_lst, D.items_tup, D.rev_lst, atI_zero, atI_one, atI_two, atI_three, atI_four, atI_neg1, setAll_nil, setAll_cons, Tgt.set_nm, Tgt.set_tp, fin_rt, fin_nx, W.ite_and, W.ite_or, W.ite_andD, W.ite_orD, Bool.false_eq_true, if_true, if_false])
def at_ (r : List Int) (i : Int) : Int := r.getD i.toNat 0
theorem ix_enc {r : List Int} {i : Int} (h0 : 0 ≤ i) (h : i < r.length) : D.ix (enc r) (.int i) = W.pure (.int (at_ r i)) := by
  have e : i = (i.toNat : Int) := by omega
  rw [e, D.ix_at (by omega)]
  unfold at_
  rw [List.getD_eq_getElem?_getD]
  rfl
def Tb.kam (T : Tb) (r : List Int) : List (Int × Int) := (pairs r.length).filter fun p => T.kn (at_ r p.1) (at_ r p.2)
theorem known_among (T : Tb) (r : List Int) (hr : r.length ≤ 64) : F_known_among [T.e, enc r] = W.pure (.lst ((T.kam r).map enc)) := by
  unfold F_known_among defW B_known_among
  array_get_dec
  rw [enc_list]
  array_get_dec
  rw [List.length_map, D.range1]
  array_get_dec
  rw [show D.list [D.rng 0 (r.length : Int)] = W.pure (.lst ((rngI 0 r.length).map enc)) from by
    show (D.iter (.rng 0 (r.length : Int))).bind (fun xs => W.pure (D.lst xs)) = _
    rw [D.iter_rng (by omega) (by omega) (by omega) (by omega) (by omega)]
    rfl]
  array_get_dec
  rw [lc2_nm (rngI 0 r.length) enc (fun _ => rngI 0 r.length) enc (fun i j => decide (i < j) && T.kn (at_ r i) (at_ r j)) (fun i j => enc (i, j)) rfl rfl (fun _ _ => rfl) (fun a => [some T.e, some (D.tup (r.map enc)), some (D.lst ((rngI 0 r.length).map enc)), some (enc a), none]) (fun _ _ => rfl) (fun i hi j hj => by
    have hi := mem_rngI.mp hi
    have hj := mem_rngI.mp hj
    array_get_dec
    rw [enc_int, enc_int, show D.tup (r.map enc) = enc r from rfl, ix_enc hi.1 hi.2, ix_enc hj.1 hj.2]
    array_get_dec
    rw [is_known]
    array_get_dec) (fun i _ j _ _ => rfl) (by
      refine size_le (Nat.le_trans (sum_le_mul (rngI 0 r.length) (fun _ => (rngI 0 r.length).length) 64 fun _ _ => ?_) ?_)
      · rw [rngI_length]; omega
      · rw [rngI_length]; omega)]
  congr 2
  unfold Tb.kam pairs
  rw [List.filter_flatMap, List.map_flatMap]
  congr 1
  funext i
  rw [List.filter_map, List.filter_filter, List.map_map]
  congr 1
  refine List.filter_congr fun j _ => ?_
  show _ = (T.kn (at_ r i) (at_ r j) && decide (i < j))
  rw [Bool.and_comm]
theorem isLot_iff {T : Tb} {l : List Int} (hr : ∀ x ∈ l, 0 ≤ x ∧ x < T.1) : T.isLot (csort l) = decide l.Nodup := by
  rw [Bool.eq_iff_iff, decide_eq_true_eq]
  constructor
  · intro h
    unfold Tb.isLot at h
    have h := of_decide_eq_true (Bool.and_eq_true_iff.mp h).1
    exact (csort_perm l).nodup_iff.mp (h.imp fun {a b} q e => by omega)
  · intro h
    exact isLot_csort h hr
theorem are_different (T : Tb) (l : List Int) (hl : l.length ≤ 64) (hr : ∀ x ∈ l, 0 ≤ x ∧ x < T.1) : F_are_different [T.e, enc l, .int l.length] = W.pure (.bl (decide l.Nodup)) := by
  unfold F_are_different defW B_are_different
  array_get_dec
  rw [are_integers]
  array_get_dec
  rw [show D.len [enc l] = W.pure (.int l.length) from by rw [enc_list, D.len_tup, List.length_map]]
  array_get_dec
  simp only [decide_true, Bool.not_true]
  array_get_dec
  rw [show D.sorted [enc l] = W.pure (.lst ((csort l).map enc)) from D.sorted_tup l (size_le (by omega))]
  array_get_dec
  rw [show (D.tup ((csort l).map enc)) = enc (csort l) from rfl, is_lot, isLot_iff hr]
theorem minC_least {a : Int} {l : List Int} (h : ∀ x ∈ l, a < x) : minC a l = a := by
  have h3 := minC_le a l a List.mem_cons_self
  rw [cle_int, decide_eq_true_eq] at h3
  rcases List.mem_cons.mp (minC_mem a l) with h4 | h4
  · exact h4
  · have := h _ h4
    omega
theorem is_square (T : Tb) (a b c d : Int) (hr : ∀ x ∈ [a, b, c, d], 0 ≤ x ∧ x < T.1) (hm : ∀ x ∈ [b, c, d], a < x) : F_is_square [T.e, enc [a, b, c, d]] = W.pure (.bl (decide [a, b, c, d].Nodup && (!decide (d < b) && decide (T.kam [a, b, c, d] = [(0, 1), (0, 3), (1, 2), (2, 3)])))) := by
  unfold F_is_square defW B_is_square
  array_get_dec
  rw [show (D.int 4) = .int ([a, b, c, d].length : Nat) from rfl, are_different T _ (by simp) hr]
  array_get_dec
  rw [show D.ix (enc [a, b, c, d]) (.int 0) = W.pure (.int a) from rfl, show D.ix (enc [a, b, c, d]) (.int 1) = W.pure (.int b) from rfl, show D.ix (enc [a, b, c, d]) (.int 3) = W.pure (.int d) from rfl, show D.min [enc [a, b, c, d]] = W.pure (.int a) from by
    rw [show D.min [enc [a, b, c, d]] = W.pure (enc (minC a [b, c, d])) from D.min_tup a [b, c, d], minC_least hm]; rfl]
  array_get_dec
  rw [known_among T _ (by simp)]
  array_get_dec
  rw [show (D.lst [D.tup [D.int 0, D.int 1], D.tup [D.int 0, D.int 3], D.tup [D.int 1, D.int 2], D.tup [D.int 2, D.int 3]]) = D.lst (([(0, 1), (0, 3), (1, 2), (2, 3)] : List (Int × Int)).map enc) from rfl, D.eq_lst]
  simp only [decide_true, Bool.not_true]
  cases decide [a, b, c, d].Nodup <;> cases decide (d < b) <;> simp
theorem is_five (T : Tb) (a b c d e : Int) (hr : ∀ x ∈ [a, b, c, d, e], 0 ≤ x ∧ x < T.1) (hm : ∀ x ∈ [b, c, d, e], a < x) : F_is_five [T.e, enc [a, b, c, d, e]] = W.pure (.bl (decide [a, b, c, d, e].Nodup && (!decide (e < b) && decide (T.kam [a, b, c, d, e] = [(0, 1), (0, 4), (1, 2), (2, 3), (3, 4)])))) := by
  unfold F_is_five defW B_is_five
  array_get_dec
  rw [show (D.int 5) = .int ([a, b, c, d, e].length : Nat) from rfl, are_different T _ (by simp) hr]
  array_get_dec
  rw [show D.ix (enc [a, b, c, d, e]) (.int 0) = W.pure (.int a) from rfl, show D.ix (enc [a, b, c, d, e]) (.int 1) = W.pure (.int b) from rfl, show D.ix (enc [a, b, c, d, e]) (.int 4) = W.pure (.int e) from rfl, show D.min [enc [a, b, c, d, e]] = W.pure (.int a) from by
    rw [show D.min [enc [a, b, c, d, e]] = W.pure (enc (minC a [b, c, d, e])) from D.min_tup a [b, c, d, e], minC_least hm]; rfl]
  array_get_dec
  rw [known_among T _ (by simp)]
  array_get_dec
  rw [show (D.lst [D.tup [D.int 0, D.int 1], D.tup [D.int 0, D.int 4], D.tup [D.int 1, D.int 2], D.tup [D.int 2, D.int 3], D.tup [D.int 3, D.int 4]]) = D.lst (([(0, 1), (0, 4), (1, 2), (2, 3), (3, 4)] : List (Int × Int)).map enc) from rfl, D.eq_lst]
  simp only [decide_true, Bool.not_true]
  cases decide [a, b, c, d, e].Nodup <;> cases decide (e < b) <;> simp
end
end P92

set_option Elab.async false
set_option linter.all false
set_option maxRecDepth 100000
set_option maxHeartbeats 1000000
namespace P92
open PySem PySem.Spec PyProof.Rows L2 PW Cod GT
section
local macro_rules | `(tactic| array_get_dec) => `(tactic| try simp only [W.need_len, W.need_len1, W.need_len2, W.need_len3, W.need_len4, W.need_sz0, W.need_sz1, W.need_sz2, W.need_sz3, W.need_sz4, W.need_sz5, forW_nil, forW_cons, Bool.true_and, Bool.not_true, Bool.not_false, wipeE, W.bind_pure, W.need_T, D.asLst_lst, seqW, W.run_bind, W.run_pure, W.run_need, W.run_fail, W.run_fa, W.run_ite, W.pure_bind, W.fail_bind, W.bind_assoc, W.ite_bind, W.some?_some, getV_zero, getV_succ, startE, List.length_cons, List.length_nil, List.map_cons, List.map_nil, List.cons_append, List.nil_append, List.replicate, List.set_cons_zero, List.set_cons_succ, D.eq_int, D.ne_int, D.add_int, D.add_lst, D.add_tup, D.sub_int, D.mul_int, D.mul_0, D.mul_1, D.mul_one, D.fdiv_int, D.mod_int, D.lt_int, D.le_int, D.gt_int, D.ge_int, D.tr_bl, D.truth_bl, D.int1_int, D.int1_bl, D.asInt_int, D.slice_lst, D.slice_tup, D.ix_lst, D.ix_tup, D.bagI_bag, D.bagC_bag, D.bagSet_bag, D.bagAdd_int, D.isBag_bag, D.len_lst, D.len_tup, D.min_int, D.max_int, D.abs_int, D.neg_int, D.tuple_lst, D.tuple_tup, D.iter_lst, D.iter_tup, D.items_lst, D.items_tup, D.rev_lst, atI_zero, atI_one, atI_two, atI_three, atI_four, atI_neg1, setAll_nil, setAll_cons, Tgt.set_nm, Tgt.set_tp, fin_rt, fin_nx, W.ite_and, W.ite_or, W.ite_andD, W.ite_orD, Bool.false_eq_true, if_true, if_false])
/-! ### rows of rings, each ahead of the next -/
theorem row_step {T : Tb} {k : Nat} {r : List Int} (h : r ∈ T.rows (k + 1)) : ∃ q ∈ T.rows k, ∃ x, r = q ++ [x] ∧ q.headD 0 < x ∧ x < T.1 ∧ T.kn (q.getLastD 0) x = true := by
  obtain ⟨q, hq, hr⟩ := List.mem_flatMap.mp (show r ∈ (T.rows k).flatMap T.step from h)
  obtain ⟨x, hx, rfl⟩ := List.mem_map.mp (show r ∈ ((rngI (q.headD 0 + 1) T.1).filter (T.kn (q.getLastD 0))).map fun x => q ++ [x] from hr)
  obtain ⟨h1, h2⟩ := List.mem_filter.mp hx
  have h1 := mem_rngI.mp h1
  exact ⟨q, hq, x, rfl, by omega, h1.2, h2⟩
theorem row_zero {T : Tb} {r : List Int} (h : r ∈ T.rows 0) : ∃ a, r = [a] ∧ 0 ≤ a ∧ a < T.1 := by
  obtain ⟨x, hx, rfl⟩ := List.mem_map.mp (show r ∈ (rngI 0 T.1).map fun x => [x] from h)
  exact ⟨x, rfl, mem_rngI.mp hx⟩
theorem row4 {T : Tb} {r : List Int} (h : r ∈ T.rows 3) : ∃ a b c d, r = [a, b, c, d] ∧ a < b ∧ a < c ∧ a < d ∧ T.kn a b = true ∧ T.kn b c = true ∧ T.kn c d = true := by
  obtain ⟨q3, hq3, d, rfl, h1, h2, h3⟩ := row_step h
  obtain ⟨q2, hq2, c, rfl, h4, h5, h6⟩ := row_step hq3
  obtain ⟨q1, hq1, b, rfl, h7, h8, h9⟩ := row_step hq2
  obtain ⟨a, rfl, _⟩ := row_zero hq1
  exact ⟨a, b, c, d, rfl, h7, h4, h1, h9, h6, h3⟩
theorem row5 {T : Tb} {r : List Int} (h : r ∈ T.rows 4) : ∃ a b c d e, r = [a, b, c, d, e] ∧ a < b ∧ a < c ∧ a < d ∧ a < e ∧ T.kn a b = true ∧ T.kn b c = true ∧ T.kn c d = true ∧ T.kn d e = true := by
  obtain ⟨q, hq, e, rfl, h1, h2, h3⟩ := row_step h
  obtain ⟨a, b, c, d, rfl, h4, h5, h6, h7, h8, h9⟩ := row4 hq
  exact ⟨a, b, c, d, e, rfl, h4, h5, h6, h1, h7, h8, h9, h3⟩
def ahead (r r' : List Int) : Prop := ∀ s t, cle (r ++ s) (r' ++ t) = true
theorem rows_ahead (T : Tb) (k : Nat) : (T.rows k).Pairwise ahead := by
  induction k with
  | zero =>
    show ((rngI 0 T.1).map fun x => [x]).Pairwise ahead
    rw [List.pairwise_map]
    refine (rngI_lt 0 T.1).imp fun {a b} h s t => ?_
    show cle (a :: s) (b :: t) = true
    rw [cle_cons, decide_eq_true h]
    rfl
  | succ k ih =>
    show ((T.rows k).flatMap T.step).Pairwise ahead
    refine List.pairwise_flatMap.mpr ⟨fun r _ => ?_, ih.imp fun {r r'} h x hx y hy s t => ?_⟩
    · unfold Tb.step
      rw [List.pairwise_map]
      refine ((rngI_lt _ _).filter _).imp fun {a b} h s t => ?_
      rw [List.append_assoc, List.append_assoc, cle_app]
      show cle (a :: s) (b :: t) = true
      rw [cle_cons, decide_eq_true h]
      rfl
    · obtain ⟨a, _, rfl⟩ := List.mem_map.mp hx
      obtain ⟨b, _, rfl⟩ := List.mem_map.mp hy
      rw [List.append_assoc, List.append_assoc]
      exact h _ _
theorem rows_sorted (T : Tb) (k : Nat) (p : List Int → Bool) : csort ((T.rows k).filter p) = (T.rows k).filter p := by
  refine csort_eq (List.Perm.refl _) (((rows_ahead T k).imp fun {r r'} h => ?_).filter p)
  have := h [] []
  rwa [List.append_nil, List.append_nil] at this
/-! ### couples inside a row, by sums -/
theorem kn_sum {T : Tb} (hT : T.Ok) (u v : Int) : ind (T.kn u v) = sm T.2 (fun c => (if c = (u, v) then 1 else 0) + (if c = (v, u) then 1 else 0)) := by
  have one : ∀ x : Int × Int, sm T.2 (fun c => if c = x then (1 : Int) else 0) = if x ∈ T.2 then 1 else 0 := fun x => by
    by_cases h : x ∈ T.2
    · rw [if_pos h, sm_one (f := fun _ => (1 : Int)) hT.nd h]
    · rw [if_neg h, sm_none h]
  rw [sm_add, one, one]
  have h1 : (u, v) ∈ T.2 → 0 ≤ u ∧ u < v ∧ v < T.1 := fun h => hT.mem _ h
  have h2 : (v, u) ∈ T.2 → 0 ≤ v ∧ v < u ∧ u < T.1 := fun h => hT.mem _ h
  unfold Tb.kn ind
  rcases Int.lt_trichotomy u v with h | h | h
  · rw [Int.min_eq_left (by omega), Int.max_eq_right (by omega)]
    have : (v, u) ∉ T.2 := fun q => by have := h2 q; omega
    rw [if_neg this]
    by_cases q : (u, v) ∈ T.2 <;> simp [q]
  · subst h
    have : (u, u) ∉ T.2 := fun q => by have := h1 q; omega
    simp [this]
  · rw [Int.min_eq_right (by omega), Int.max_eq_left (by omega)]
    have : (u, v) ∉ T.2 := fun q => by have := h1 q; omega
    rw [if_neg this]
    by_cases q : (v, u) ∈ T.2 <;> simp [q]
theorem pair_sum {r : List Int} (hr : r.Nodup) (x y : Int) : sm r (fun u => sm r (fun v => if ((x, y) : Int × Int) = (u, v) then (1 : Int) else 0)) = ind (decide (x ∈ r) && decide (y ∈ r)) := by
  have e : ∀ u, sm r (fun v => if ((x, y) : Int × Int) = (u, v) then (1 : Int) else 0) = if u = x then ind (decide (y ∈ r)) else 0 := fun u => by
    by_cases h : u = x
    · subst h
      rw [if_pos rfl]
      by_cases q : y ∈ r
      · rw [sm_congr (g := fun v => if v = y then (1 : Int) else 0) fun v _ => by
          by_cases z : v = y
          · subst z; simp
          · have : ¬ y = v := fun e => z e.symm
            simp [z, this], sm_one (f := fun _ => (1 : Int)) hr q]
        simp [q, ind]
      · rw [sm_congr (g := fun v => if v = y then (1 : Int) else 0) fun v _ => by
          by_cases z : v = y
          · subst z; simp
          · have : ¬ y = v := fun e => z e.symm
            simp [z, this], sm_none q]
        simp [q, ind]
    · have : ¬ x = u := fun e => h e.symm
      rw [if_neg h, sm_congr (g := fun _ => 0) fun v _ => by simp [this], sm_zero]
  rw [sm_congr fun u _ => e u]
  by_cases q : x ∈ r
  · rw [sm_one (f := fun _ => ind (decide (y ∈ r))) hr q]
    simp [q]
  · rw [sm_none q]
    simp [q, ind]
theorem ins_sum {T : Tb} (hT : T.Ok) {r : List Int} (hr : r.Nodup) : sm r (fun u => sm r (fun v => ind (T.kn u v))) = 2 * (T.ins r : Int) := by
  have e : (T.ins r : Int) = sm T.2 (fun c => ind (decide (c.1 ∈ r) && decide (c.2 ∈ r))) := by rw [sm_count]; rfl
  have e2 : sm r (fun u => sm r (fun v => ind (T.kn u v))) = sm r (fun u => sm T.2 (fun c => sm r (fun v => (if c = (u, v) then (1 : Int) else 0) + (if c = (v, u) then 1 else 0)))) := sm_congr fun u _ => by
    rw [← sm_comm]
    exact sm_congr fun v _ => kn_sum hT u v
  rw [e2, sm_comm, e, ← sm_mul]
  refine sm_congr fun c _ => ?_
  obtain ⟨x, y⟩ := c
  rw [sm_congr fun u _ => sm_add, sm_add, pair_sum hr]
  rw [sm_comm, pair_sum hr]
  dsimp only
  omega
theorem ins4 {T : Tb} (hT : T.Ok) {a b c d : Int} (h : [a, b, c, d].Nodup) : (T.ins [a, b, c, d] : Int) = ind (T.kn a b) + ind (T.kn a c) + ind (T.kn a d) + ind (T.kn b c) + ind (T.kn b d) + ind (T.kn c d) := by
  have e := ins_sum hT h
  simp only [sm_cons, sm_nil] at e
  rw [hT.gr.ir, hT.gr.ir, hT.gr.ir, hT.gr.ir, kn_symm T b a, kn_symm T c a, kn_symm T d a, kn_symm T c b, kn_symm T d b, kn_symm T d c] at e
  rw [show ind false = 0 from rfl] at e
  omega
theorem ins5 {T : Tb} (hT : T.Ok) {a b c d f : Int} (h : [a, b, c, d, f].Nodup) : (T.ins [a, b, c, d, f] : Int) = ind (T.kn a b) + ind (T.kn a c) + ind (T.kn a d) + ind (T.kn a f) + ind (T.kn b c) + ind (T.kn b d) + ind (T.kn b f) + ind (T.kn c d) + ind (T.kn c f) + ind (T.kn d f) := by
  have e := ins_sum hT h
  simp only [sm_cons, sm_nil] at e
  rw [hT.gr.ir, hT.gr.ir, hT.gr.ir, hT.gr.ir, hT.gr.ir, kn_symm T b a, kn_symm T c a, kn_symm T d a, kn_symm T f a, kn_symm T c b, kn_symm T d b, kn_symm T f b, kn_symm T d c, kn_symm T f c, kn_symm T f d] at e
  rw [show ind false = 0 from rfl] at e
  omega
theorem nodup_bar {l : List Int} {p : Prop} [Decidable p] : (decide p = true) ↔ p := decide_eq_true_iff
theorem kam4 (T : Tb) (a b c d : Int) : decide (T.kam [a, b, c, d] = [(0, 1), (0, 3), (1, 2), (2, 3)]) = (T.kn a b && (T.kn b c && (T.kn c d && (T.kn a d && (!T.kn a c && !T.kn b d))))) := by
  rw [Bool.eq_iff_iff, decide_eq_true_eq]
  unfold Tb.kam
  rw [show pairs ([a, b, c, d].length : Int) = [(0, 1), (0, 2), (0, 3), (1, 2), (1, 3), (2, 3)] from pairs4]
  have e : ([(0, 1), (0, 3), (1, 2), (2, 3)] : List (Int × Int)) = ([(0, 1), (0, 2), (0, 3), (1, 2), (1, 3), (2, 3)] : List (Int × Int)).filter fun p => decide (p ∈ ([(0, 1), (0, 3), (1, 2), (2, 3)] : List (Int × Int))) := by decide
  rw [e, filter_eq_iff]
  simp only [List.forall_mem_cons, List.not_mem_nil, false_implies, implies_true, and_true]
  show (T.kn a b = true ∧ T.kn a c = false ∧ T.kn a d = true ∧ T.kn b c = true ∧ T.kn b d = false ∧ T.kn c d = true) ↔ _
  cases T.kn a b <;> cases T.kn a c <;> cases T.kn a d <;> cases T.kn b c <;> cases T.kn b d <;> cases T.kn c d <;> simp
theorem kam5 (T : Tb) (a b c d f : Int) : decide (T.kam [a, b, c, d, f] = [(0, 1), (0, 4), (1, 2), (2, 3), (3, 4)]) = (T.kn a b && (T.kn b c && (T.kn c d && (T.kn d f && (T.kn a f && (!T.kn a c && (!T.kn a d && (!T.kn b d && (!T.kn b f && !T.kn c f))))))))) := by
  rw [Bool.eq_iff_iff, decide_eq_true_eq]
  unfold Tb.kam
  rw [show pairs ([a, b, c, d, f].length : Int) = [(0, 1), (0, 2), (0, 3), (0, 4), (1, 2), (1, 3), (1, 4), (2, 3), (2, 4), (3, 4)] from pairs5]
  have e : ([(0, 1), (0, 4), (1, 2), (2, 3), (3, 4)] : List (Int × Int)) = ([(0, 1), (0, 2), (0, 3), (0, 4), (1, 2), (1, 3), (1, 4), (2, 3), (2, 4), (3, 4)] : List (Int × Int)).filter fun p => decide (p ∈ ([(0, 1), (0, 4), (1, 2), (2, 3), (3, 4)] : List (Int × Int))) := by decide
  rw [e, filter_eq_iff]
  simp only [List.forall_mem_cons, List.not_mem_nil, false_implies, implies_true, and_true]
  show (T.kn a b = true ∧ T.kn a c = false ∧ T.kn a d = false ∧ T.kn a f = true ∧ T.kn b c = true ∧ T.kn b d = false ∧ T.kn b f = false ∧ T.kn c d = true ∧ T.kn c f = false ∧ T.kn d f = true) ↔ _
  simp only [Bool.and_eq_true, Bool.not_eq_true']
  constructor
  · rintro ⟨h1, h2, h3, h4, h5, h6, h7, h8, h9, h10⟩; exact ⟨h1, h5, h8, h10, h4, h2, h3, h6, h7, h9⟩
  · rintro ⟨h1, h5, h8, h10, h4, h2, h3, h6, h7, h9⟩; exact ⟨h1, h2, h3, h4, h5, h6, h7, h8, h9, h10⟩
theorem good4 {T : Tb} (hT : T.Ok) {r : List Int} (hr : r ∈ T.rows 3) : ∃ a b c d, r = [a, b, c, d] ∧ (∀ x ∈ [b, c, d], a < x) ∧ (decide [a, b, c, d].Nodup && (!decide (d < b) && decide (T.kam [a, b, c, d] = [(0, 1), (0, 3), (1, 2), (2, 3)])) && T.kn (r.headD 0) (r.getLastD 0)) = (T.isGood 4 r && decide r.Nodup) := by
  obtain ⟨a, b, c, d, rfl, h1, h2, h3, h4, h5, h6⟩ := row4 hr
  refine ⟨a, b, c, d, rfl, fun x hx => ?_, ?_⟩
  · simp only [List.mem_cons, List.not_mem_nil, or_false] at hx
    rcases hx with rfl | rfl | rfl <;> assumption
  · rw [kam4]
    show _ = (T.kn a d && (decide (T.ins [a, b, c, d] = 4) && decide (b < d)) && _)
    show (_ && T.kn a d) = _
    rw [h4, h5, h6]
    by_cases hn : [a, b, c, d].Nodup
    · have hi := ins4 hT hn
      rw [h4, h5, h6] at hi
      have hbd : b ≠ d := by
        simp only [List.nodup_cons, List.mem_cons, List.not_mem_nil, or_false, not_or] at hn
        exact hn.2.1.2
      have e1 : decide (b < d) = !decide (d < b) := by
        rw [← decide_not, decide_eq_decide]; omega
      rw [e1, decide_eq_true hn]
      cases q1 : T.kn a d with
      | false => simp
      | true =>
        rw [q1] at hi
        have e2 : decide (T.ins [a, b, c, d] = 4) = (!T.kn a c && !T.kn b d) := by
          rw [Bool.eq_iff_iff, decide_eq_true_eq]
          cases q2 : T.kn a c <;> cases q3 : T.kn b d <;> rw [q2, q3] at hi <;> simp [ind] at hi ⊢ <;> omega
        rw [e2]
        cases decide (d < b) <;> cases T.kn a c <;> cases T.kn b d <;> rfl
    · rw [decide_eq_false hn]
      simp
theorem good5 {T : Tb} (hT : T.Ok) {r : List Int} (hr : r ∈ T.rows 4) : ∃ a b c d e, r = [a, b, c, d, e] ∧ (∀ x ∈ [b, c, d, e], a < x) ∧ (decide [a, b, c, d, e].Nodup && (!decide (e < b) && decide (T.kam [a, b, c, d, e] = [(0, 1), (0, 4), (1, 2), (2, 3), (3, 4)])) && T.kn (r.headD 0) (r.getLastD 0)) = (T.isGood 5 r && decide r.Nodup) := by
  obtain ⟨a, b, c, d, f, rfl, h1, h2, h3, h3', h4, h5, h6, h7⟩ := row5 hr
  refine ⟨a, b, c, d, f, rfl, fun x hx => ?_, ?_⟩
  · simp only [List.mem_cons, List.not_mem_nil, or_false] at hx
    rcases hx with rfl | rfl | rfl | rfl <;> assumption
  · rw [kam5]
    show _ = (T.kn a f && (decide (T.ins [a, b, c, d, f] = 5) && decide (b < f)) && _)
    show (_ && T.kn a f) = _
    rw [h4, h5, h6, h7]
    by_cases hn : [a, b, c, d, f].Nodup
    · have hi := ins5 hT hn
      rw [h4, h5, h6, h7] at hi
      have hbd : b ≠ f := by
        simp only [List.nodup_cons, List.mem_cons, List.not_mem_nil, or_false, not_or] at hn
        exact hn.2.1.2.2
      have e1 : decide (b < f) = !decide (f < b) := by
        rw [← decide_not, decide_eq_decide]; omega
      rw [e1, decide_eq_true hn]
      cases q1 : T.kn a f with
      | false => simp
      | true =>
        rw [q1] at hi
        have e2 : decide (T.ins [a, b, c, d, f] = 5) = (!T.kn a c && (!T.kn a d && (!T.kn b d && (!T.kn b f && !T.kn c f)))) := by
          rw [Bool.eq_iff_iff, decide_eq_true_eq]
          have n1 := ind_nn (T.kn a c)
          have n2 := ind_nn (T.kn a d)
          have n3 := ind_nn (T.kn b d)
          have n4 := ind_nn (T.kn b f)
          have n5 := ind_nn (T.kn c f)
          simp only [Bool.and_eq_true, Bool.not_eq_true', ← ind_eq0]
          rw [show ind true = 1 from rfl] at hi
          omega
        rw [e2]
        cases decide (f < b) <;> simp
    · rw [decide_eq_false hn]
      simp
theorem rows_range {T : Tb} (hT : T.Ok) {k : Nat} {r : List Int} (hr : r ∈ T.rows k) : ∀ x ∈ r, 0 ≤ x ∧ x < T.1 := ((rows_len T hT k).2 r hr).2
theorem squares (T : Tb) (hT : T.Ok) : F_squares [T.e] = W.pure (enc (T.lrings 3)) := by
  unfold F_squares defW B_squares
  array_get_dec
  rw [lc_nm (T.rings 3) enc (fun r => T.isGood 4 r && decide r.Nodup) enc (by
      array_get_dec
      rw [show (D.int 4) = .int ((3 + 1 : Nat) : Int) from rfl, rings_of T hT 3 (by decide)]
      array_get_dec) rfl (fun r hr => by
      array_get_dec
      obtain ⟨hr1, hk⟩ := List.mem_filter.mp (show r ∈ (T.rows 3).filter fun r => T.kn (r.headD 0) (r.getLastD 0) from hr)
      obtain ⟨a, b, c, d, e, hm, hg⟩ := good4 hT hr1
      rw [hk, Bool.and_true] at hg
      rw [← hg, e, is_square T a b c d (by rw [← e]; exact rows_range hT hr1) hm]
      array_get_dec) (fun _ _ _ => rfl)]
  array_get_dec
  show W.pure (D.tup ((((T.rows 3).filter fun r => T.kn (r.headD 0) (r.getLastD 0)).filter fun r => T.isGood 4 r && decide r.Nodup).map enc)) = W.pure (D.tup ((T.lrings 3).map enc))
  unfold Tb.lrings
  rw [lrows_eq, List.filter_filter, List.filter_filter, rows_sorted]
  congr 3
  refine List.filter_congr fun r _ => ?_
  unfold Tb.isGood
  cases T.kn (r.headD 0) (r.getLastD 0) <;> simp
theorem fives (T : Tb) (hT : T.Ok) : F_fives [T.e] = W.pure (enc (T.lrings 4)) := by
  unfold F_fives defW B_fives
  array_get_dec
  rw [lc_nm (T.rings 4) enc (fun r => T.isGood 5 r && decide r.Nodup) enc (by
      array_get_dec
      rw [show (D.int 5) = .int ((4 + 1 : Nat) : Int) from rfl, rings_of T hT 4 (by decide)]
      array_get_dec) rfl (fun r hr => by
      array_get_dec
      obtain ⟨hr1, hk⟩ := List.mem_filter.mp (show r ∈ (T.rows 4).filter fun r => T.kn (r.headD 0) (r.getLastD 0) from hr)
      obtain ⟨a, b, c, d, f, e, hm, hg⟩ := good5 hT hr1
      rw [hk, Bool.and_true] at hg
      rw [← hg, e, is_five T a b c d f (by rw [← e]; exact rows_range hT hr1) hm]
      array_get_dec) (fun _ _ _ => rfl)]
  array_get_dec
  show W.pure (D.tup ((((T.rows 4).filter fun r => T.kn (r.headD 0) (r.getLastD 0)).filter fun r => T.isGood 5 r && decide r.Nodup).map enc)) = W.pure (D.tup ((T.lrings 4).map enc))
  unfold Tb.lrings
  rw [lrows_eq, List.filter_filter, List.filter_filter, rows_sorted]
  congr 3
  refine List.filter_congr fun r _ => ?_
  unfold Tb.isGood
  cases T.kn (r.headD 0) (r.getLastD 0) <;> simp
end
end P92

set_option Elab.async false
set_option linter.all false
set_option maxRecDepth 100000
set_option maxHeartbeats 1000000
namespace P92
open PySem PySem.Spec PyProof.Rows L2 PW Cod GT
section
local macro_rules | `(tactic| array_get_dec) => `(tactic| try simp only [W.need_len, W.need_len1, W.need_len2, W.need_len3, W.need_len4, W.need_sz0, W.need_sz1, W.need_sz2, W.need_sz3, W.need_sz4, W.need_sz5, forW_nil, forW_cons, Bool.true_and, Bool.not_true, Bool.not_false, wipeE, W.bind_pure, W.need_T, D.asLst_lst, seqW, W.run_bind, W.run_pure, W.run_need, W.run_fail, W.run_fa, W.run_ite, W.pure_bind, W.fail_bind, W.bind_assoc, W.ite_bind, W.some?_some, getV_zero, getV_succ, startE, List.length_cons, List.length_nil, List.map_cons, List.map_nil, List.cons_append, List.nil_append, List.replicate, List.set_cons_zero, List.set_cons_succ, D.eq_int, D.ne_int, D.add_int, D.add_lst, D.add_tup, D.sub_int, D.mul_int, D.mul_0, D.mul_1, D.mul_one, D.fdiv_int, D.mod_int, D.lt_int, D.le_int, D.gt_int, D.ge_int, D.tr_bl, D.truth_bl, D.int1_int, D.int1_bl, D.asInt_int, D.slice_lst, D.slice_tup, D.ix_lst, D.ix_tup, D.bagI_bag, D.bagC_bag, D.bagSet_bag, D.bagAdd_int, D.isBag_bag, D.len_lst, D.len_tup, D.min_int, D.max_int, D.abs_int, D.neg_int, D.tuple_lst, D.tuple_tup, D.iter_lst, D.iter_tup, D.items_lst, D.items_tup, D.rev_lst, atI_zero, atI_one, atI_two, atI_three, atI_four, atI_neg1, setAll_nil, setAll_cons, Tgt.set_nm, Tgt.set_tp, fin_rt, fin_nx, W.ite_and, W.ite_or, W.ite_andD, W.ite_orD, Bool.false_eq_true, if_true, if_false])
theorem dedI_new (ns : List Int) : dedI ns = ns.foldl addNew [] := by
  unfold dedI
  have e : (step_dedup : List Int → Int → List Int) = addNew := by
    funext acc x
    have e2 : (acc.any (· == x)) = decide (x ∈ acc) := by
      rw [Bool.eq_iff_iff, List.any_eq_true, decide_eq_true_eq]
      constructor
      · rintro ⟨y, hy, h⟩
        rw [← eq_of_beq h]; exact hy
      · intro h; exact ⟨x, h, by simp⟩
    unfold step_dedup addNew
    rw [e2]
    by_cases h : x ∈ acc <;> simp [h]
  rw [e]
def Tb.isFar (T : Tb) (x y : Int × Int) : Bool := decide ((dedI [x.1, x.2, y.1, y.2]).length = 4) && ((!T.kn x.1 y.1 && (!T.kn x.1 y.2 && (!T.kn x.2 y.1 && !T.kn x.2 y.2))) && decide (x.1 < y.1))
def Tb.farOf (T : Tb) (x : Int × Int) (ys : List (Int × Int)) : List (List Int) := (ys.filter (T.isFar x)).map fun y => [x.1, x.2, y.1, y.2]
def Tb.far (T : Tb) : List (List Int) := T.2.flatMap fun x => T.farOf x T.2
theorem farOf_len (T : Tb) (x : Int × Int) (ys : List (Int × Int)) : (T.farOf x ys).length ≤ ys.length := by
  unfold Tb.farOf
  rw [List.length_map]
  exact List.length_filter_le _ _
theorem far_len (T : Tb) (xs : List (Int × Int)) : (xs.flatMap fun x => T.farOf x T.2).length ≤ xs.length * T.2.length := by
  rw [List.length_flatMap]
  exact sum_le_mul _ _ _ fun x _ => farOf_len T x T.2
theorem law_far (T : Tb) (hT : T.Ok) : F__law_far [T.e] = W.pure (.lst ((csort T.far).map enc)) := by
  have hkl := k_len T hT
  unfold F__law_far defW B__law_far
  array_get_dec
  rw [show T.e = .tup [.int T.1, .tup (T.2.map enc)] from rfl]
  array_get_dec
  refine for_bind (e := enc) (fun done ρ => ∃ o2 o3 o4 o5 o6 o7 o8, ρ = [some T.e, some (.lst ((done.flatMap fun x => T.farOf x T.2).map enc)), o2, o3, o4, o5, o6, o7, o8]) T.2 _ ⟨_, _, _, _, _, _, _, rfl⟩ (fun done x rest ρ hx ⟨o2, o3, o4, o5, o6, o7, o8, hρ⟩ => by
    subst hρ
    have hdl : done.length ≤ 36 := by
      have e := congrArg List.length hx
      rw [List.length_append, List.length_cons] at e
      omega
    have hfl := far_len T done
    have hm : done.length * T.2.length ≤ 36 * 36 := Nat.mul_le_mul hdl hkl
    rw [enc_pair]
    array_get_dec
    rw [show T.e = .tup [.int T.1, .tup (T.2.map enc)] from rfl]
    array_get_dec
    refine for_last (e := enc) (fun dn ρ => ∃ o4 o5 o6 o7 o8, ρ = [some T.e, some (.lst (((done.flatMap fun x => T.farOf x T.2) ++ T.farOf x dn).map enc)), some (enc x.1), some (enc x.2), o4, o5, o6, o7, o8]) T.2 _ ⟨_, _, _, _, _, by rw [show T.farOf x [] = [] from rfl, List.append_nil]; rfl⟩ (fun dn y rest2 ρ hx2 ⟨o4, o5, o6, o7, o8, hρ⟩ => by
      subst hρ
      have hdn : dn.length ≤ 36 := by
        have e := congrArg List.length hx2
        rw [List.length_append, List.length_cons] at e
        omega
      have hfo := farOf_len T x dn
      rw [enc_pair]
      array_get_dec
      have hsz : ((List.map (enc (α := List Int)) ((done.flatMap fun x => T.farOf x T.2) ++ T.farOf x dn))).length ≤ 2000 := by
        rw [List.length_map, List.length_append]
        omega
      rw [show D.lenSet (.lst [enc x.1, enc x.2, enc y.1, enc y.2]) = W.pure (.int (dedI [x.1, x.2, y.1, y.2]).length) from by
        rw [show D.lenSet (.lst [enc x.1, enc x.2, enc y.1, enc y.2]) = (W.need ([x.1, x.2, y.1, y.2].length ≤ 4000)).bind (fun _ => W.pure (.int (dedI [x.1, x.2, y.1, y.2]).length)) from rfl]
        exact W.need_bind (by simp) _]
      array_get_dec
      rw [lc_tp [(x.1, y.1), (x.1, y.2), (x.2, y.1), (x.2, y.2)] (fun c => enc c.1) (fun c => enc c.2) (fun c => T.kn c.1 c.2) (fun _ => enc (1 : Int)) rfl rfl (fun c _ => by
          array_get_dec
          rw [enc_int, enc_int, law_know]
          array_get_dec) (fun _ _ _ => rfl)]
      array_get_dec
      rw [D.eq_nil_map _ fun _ => (1 : Int)]
      have e1 : decide (([(x.1, y.1), (x.1, y.2), (x.2, y.1), (x.2, y.2)].filter fun c => T.kn c.1 c.2) = []) = (!T.kn x.1 y.1 && (!T.kn x.1 y.2 && (!T.kn x.2 y.1 && !T.kn x.2 y.2))) := by
        rw [Bool.eq_iff_iff, decide_eq_true_eq, List.filter_eq_nil_iff]
        simp
      rw [e1, enc_int, enc_int, enc_int, enc_int]
      array_get_dec
      have hrow : T.farOf x (dn ++ [y]) = T.farOf x dn ++ if T.isFar x y = true then [[x.1, x.2, y.1, y.2]] else [] := by
        unfold Tb.farOf
        rw [filter_snoc, List.map_append]
        congr 1
        split <;> rfl
      rw [hrow]
      have done_ : T.isFar x y = false → (done.flatMap fun x => T.farOf x T.2) ++ (T.farOf x dn ++ if T.isFar x y = true then [[x.1, x.2, y.1, y.2]] else []) = (done.flatMap fun x => T.farOf x T.2) ++ T.farOf x dn := fun h => by
        rw [h, if_neg (by simp), List.append_nil]
      by_cases h4 : (dedI [x.1, x.2, y.1, y.2]).length = 4
      · rw [decide_eq_true (show ((dedI [x.1, x.2, y.1, y.2]).length : Int) = 4 by omega), if_pos rfl]
        by_cases hk : (!T.kn x.1 y.1 && (!T.kn x.1 y.2 && (!T.kn x.2 y.1 && !T.kn x.2 y.2))) = true
        · rw [if_pos hk]
          by_cases hl : x.1 < y.1
          · have hf : T.isFar x y = true := by unfold Tb.isFar; rw [decide_eq_true h4, hk, decide_eq_true hl]; rfl
            rw [decide_eq_true hl, hf]
            array_get_dec
            rw [W.need_size (by (try simp only [List.length_cons, List.length_nil]); omega)]
            refine ⟨_, .inl rfl, _, _, _, _, _, by simp only [← List.append_assoc, List.map_append]; rfl⟩
          · have hf : T.isFar x y = false := by unfold Tb.isFar; rw [decide_eq_false hl, Bool.and_false, Bool.and_false]
            rw [done_ hf, decide_eq_false hl]
            array_get_dec
            rw [W.need_size (by (try simp only [List.length_cons, List.length_nil]); omega), List.append_nil]
            exact ⟨_, .inl rfl, _, _, _, _, _, rfl⟩
        · have hf : T.isFar x y = false := by unfold Tb.isFar; rw [Bool.eq_false_iff.mpr hk, Bool.false_and, Bool.and_false]
          rw [if_neg hk, done_ hf]
          rw [W.need_size (by (try simp only [List.length_cons, List.length_nil]); omega), List.append_nil]
          exact ⟨_, .inl rfl, _, _, _, _, _, rfl⟩
      · have hf : T.isFar x y = false := by unfold Tb.isFar; rw [decide_eq_false h4, Bool.false_and]
        rw [decide_eq_false (show ¬ ((dedI [x.1, x.2, y.1, y.2]).length : Int) = 4 by omega), if_neg (by simp), done_ hf]
        rw [W.need_size (by (try simp only [List.length_cons, List.length_nil]); omega), List.append_nil]
        exact ⟨_, .inl rfl, _, _, _, _, _, rfl⟩) (fun ρ' ⟨o4, o5, o6, o7, o8, e⟩ => by subst e; exact ⟨_, _, _, _, _, _, _, by rw [List.flatMap_append, List.flatMap_cons, List.flatMap_nil, List.append_nil]; rfl⟩)) (fun ρ' ⟨o2, o3, o4, o5, o6, o7, o8, e⟩ => by
        subst e
        have hm : T.2.length * T.2.length ≤ 36 * 36 := Nat.mul_le_mul hkl hkl
        have hfl := far_len T T.2
        array_get_dec
        rw [D.sorted_lst _ (size_le (by omega))]
        array_get_dec
        rfl)
end
end P92

set_option Elab.async false
set_option linter.all false
set_option maxRecDepth 100000
set_option maxHeartbeats 1000000
namespace P92
open PySem PySem.Spec PyProof.Rows L2 PW Cod GT
section
local macro_rules | `(tactic| array_get_dec) => `(tactic| try simp only [W.need_len, W.need_len1, W.need_len2, W.need_len3, W.need_len4, W.need_sz0, W.need_sz1, W.need_sz2, W.need_sz3, W.need_sz4, W.need_sz5, forW_nil, forW_cons, Bool.true_and, Bool.not_true, Bool.not_false, wipeE, W.bind_pure, W.need_T, D.asLst_lst, seqW, W.run_bind, W.run_pure, W.run_need, W.run_fail, W.run_fa, W.run_ite, W.pure_bind, W.fail_bind, W.bind_assoc, W.ite_bind, W.some?_some, getV_zero, getV_succ, startE, List.length_cons, List.length_nil, List.map_cons, List.map_nil, List.cons_append, List.nil_append, List.replicate, List.set_cons_zero, List.set_cons_succ, D.eq_int, D.ne_int, D.add_int, D.add_lst, D.add_tup, D.sub_int, D.mul_int, D.mul_0, D.mul_1, D.mul_one, D.fdiv_int, D.mod_int, D.lt_int, D.le_int, D.gt_int, D.ge_int, D.tr_bl, D.truth_bl, D.int1_int, D.int1_bl, D.asInt_int, D.slice_lst, D.slice_tup, D.ix_lst, D.ix_tup, D.bagI_bag, D.bagC_bag, D.bagSet_bag, D.bagAdd_int, D.isBag_bag, D.len_lst, D.len_tup, D.min_int, D.max_int, D.abs_int, D.neg_int, D.tuple_lst, D.tuple_tup, D.iter_lst, D.iter_tup, D.items_lst, D.items_tup, D.rev_lst, atI_zero, atI_one, atI_two, atI_three, atI_four, atI_neg1, setAll_nil, setAll_cons, Tgt.set_nm, Tgt.set_tp, fin_rt, fin_nx, W.ite_and, W.ite_or, W.ite_andD, W.ite_orD, Bool.false_eq_true, if_true, if_false])
def wSq : OkS := wd "square"
def wFar : OkS := wd "far"
def wFive : OkS := wd "five"
def Tb.bars (T : Tb) : List (OkS × List Int) := ((T.lrings 3).map fun r => (wSq, r)) ++ ((csort T.far).map fun r => (wFar, r)) ++ ((T.lrings 4).map fun r => (wFive, r))
theorem lrings_len {T : Tb} (hT : T.Ok) {k : Nat} (hk : k ≤ 5) : (T.lrings k).length ≤ 46656 := by
  unfold Tb.lrings
  rw [csort_length, lrows_eq]
  exact Nat.le_trans (List.length_filter_le _ _) (Nat.le_trans (List.length_filter_le _ _) (rows_small T hT hk))
theorem far_len2 {T : Tb} (hT : T.Ok) : T.far.length ≤ 1296 := by
  have := far_len T T.2
  have h := k_len T hT
  have hm : T.2.length * T.2.length ≤ 36 * 36 := Nat.mul_le_mul h h
  unfold Tb.far
  omega
theorem law_bars (T : Tb) (hT : T.Ok) : F__law_bars [T.e] = W.pure (.lst (T.bars.map enc)) := by
  have h3 := lrings_len hT (k := 3) (by decide)
  have h4 := lrings_len hT (k := 4) (by decide)
  have h5 := far_len2 hT
  unfold F__law_bars defW B__law_bars
  array_get_dec
  rw [lc_map (T.lrings 3) enc (fun r => enc (wSq, r)) (by
      array_get_dec
      rw [show (D.int 4) = .int ((3 + 1 : Nat) : Int) from rfl, law_rings T hT 3 (by decide) (by decide)]
      array_get_dec) rfl (fun r _ => rfl)]
  array_get_dec
  rw [lc_map (csort T.far) enc (fun r => enc (wFar, r)) (by
      array_get_dec
      rw [law_far T hT]
      array_get_dec) rfl (fun r _ => rfl)]
  array_get_dec
  rw [W.need_size (by rw [List.length_map, List.length_map, csort_length]; omega)]
  rw [lc_map (T.lrings 4) enc (fun r => enc (wFive, r)) (by
      array_get_dec
      rw [show (D.int 5) = .int ((4 + 1 : Nat) : Int) from rfl, law_rings T hT 4 (by decide) (by decide)]
      array_get_dec) rfl (fun r _ => rfl)]
  array_get_dec
  rw [W.need_size (by rw [List.length_append, List.length_map, List.length_map, List.length_map, csort_length]; omega)]
  unfold Tb.bars
  rw [List.map_append, List.map_append, List.map_map, List.map_map, List.map_map]
  rfl
end
end P92

set_option Elab.async false
set_option linter.all false
set_option maxRecDepth 100000
set_option maxHeartbeats 1000000
namespace P92
open PySem PySem.Spec PyProof.Rows L2 PW Cod GT
section
local macro_rules | `(tactic| array_get_dec) => `(tactic| try simp only [W.need_len, W.need_len1, W.need_len2, W.need_len3, W.need_len4, W.need_sz0, W.need_sz1, W.need_sz2, W.need_sz3, W.need_sz4, W.need_sz5, forW_nil, forW_cons, Bool.true_and, Bool.not_true, Bool.not_false, wipeE, W.bind_pure, W.need_T, D.asLst_lst, seqW, W.run_bind, W.run_pure, W.run_need, W.run_fail, W.run_fa, W.run_ite, W.pure_bind, W.fail_bind, W.bind_assoc, W.ite_bind, W.some?_some, getV_zero, getV_succ, startE, List.length_cons, List.length_nil, List.map_cons, List.map_nil, List.cons_append, List.nil_append, List.replicate, List.set_cons_zero, List.set_cons_succ, D.eq_int, D.ne_int, D.add_int, D.add_lst, D.add_tup, D.sub_int, D.mul_int, D.mul_0, D.mul_1, D.mul_one, D.fdiv_int, D.mod_int, D.lt_int, D.le_int, D.gt_int, D.ge_int, D.tr_bl, D.truth_bl, D.int1_int, D.int1_bl, D.asInt_int, D.slice_lst, D.slice_tup, D.ix_lst, D.ix_tup, D.bagI_bag, D.bagC_bag, D.bagSet_bag, D.bagAdd_int, D.isBag_bag, D.len_lst, D.len_tup, D.min_int, D.max_int, D.abs_int, D.neg_int, D.tuple_lst, D.tuple_tup, D.iter_lst, D.iter_tup, D.items_lst, D.items_tup, D.rev_lst, atI_zero, atI_one, atI_two, atI_three, atI_four, atI_neg1, setAll_nil, setAll_cons, Tgt.set_nm, Tgt.set_tp, fin_rt, fin_nx, W.ite_and, W.ite_or, W.ite_andD, W.ite_orD, Bool.false_eq_true, if_true, if_false])
theorem rows_mem {T : Tb} {k : Nat} {q : List Int} {x : Int} (hq : q ∈ T.rows k) (h1 : q.headD 0 < x) (h2 : x < T.1) (h3 : T.kn (q.getLastD 0) x = true) : q ++ [x] ∈ T.rows (k + 1) := by
  show q ++ [x] ∈ (T.rows k).flatMap T.step
  refine List.mem_flatMap.mpr ⟨q, hq, ?_⟩
  unfold Tb.step
  exact List.mem_map.mpr ⟨x, List.mem_filter.mpr ⟨mem_rngI.mpr ⟨by omega, h2⟩, h3⟩, rfl⟩
theorem rows_one {T : Tb} {a : Int} (h : a ∈ T.V) : [a] ∈ T.rows 0 := List.mem_map.mpr ⟨a, h, rfl⟩
theorem kn_ne {T : Tb} (hT : T.Ok) {a b : Int} (h : T.kn a b = true) : a ≠ b := (kn_ok hT h).2.2.2.2
theorem sq_row {T : Tb} (hT : T.Ok) {a b c d : Int} (ab : T.kn a b = true) (bc : T.kn b c = true) (cd : T.kn c d = true) (da : T.kn d a = true) (ac : T.kn a c = false) (bd : T.kn b d = false) (h1 : a < b) (h2 : a < c) (h3 : a < d) (h4 : b < d) : [a, b, c, d] ∈ T.lrings 3 := by
  have hr : [a, b, c, d] ∈ T.rows 3 := rows_mem (q := [a, b, c]) (rows_mem (q := [a, b]) (rows_mem (q := [a]) (rows_one (mem_V.mpr ⟨(kn_ok hT ab).1, (kn_ok hT ab).2.1⟩)) h1 (kn_ok hT ab).2.2.2.1 ab) h2 (kn_ok hT bc).2.2.2.1 bc) h3 (kn_ok hT cd).2.2.2.1 cd
  have hbc := kn_ne hT bc
  have hcd := kn_ne hT cd
  have hn : [a, b, c, d].Nodup := by
    simp only [List.nodup_cons, List.mem_cons, List.not_mem_nil, or_false, not_or, List.nodup_nil, and_true, not_false_eq_true]
    exact ⟨⟨by omega, by omega, by omega⟩, ⟨hbc, by omega⟩, hcd⟩
  have hi := ins4 hT hn
  rw [ab, bc, cd, kn_symm T a d, da, ac, bd] at hi
  have hi : (T.ins [a, b, c, d] : Int) = 4 := hi
  unfold Tb.lrings
  rw [mem_csort, List.mem_filter, lrows_eq, List.mem_filter]
  refine ⟨⟨hr, decide_eq_true hn⟩, ?_⟩
  show (T.kn a d && (decide (T.ins [a, b, c, d] = 4) && decide (b < d))) = true
  rw [kn_symm T a d, da, decide_eq_true (by omega : T.ins [a, b, c, d] = 4), decide_eq_true h4]
  rfl
theorem five_row {T : Tb} (hT : T.Ok) {a b c d f : Int} (hn : [a, b, c, d, f].Nodup) (ab : T.kn a b = true) (bc : T.kn b c = true) (cd : T.kn c d = true) (df : T.kn d f = true) (fa : T.kn f a = true) (ac : T.kn a c = false) (ad : T.kn a d = false) (bd : T.kn b d = false) (bf : T.kn b f = false) (cf : T.kn c f = false) (h1 : a < b) (h2 : a < c) (h3 : a < d) (h3' : a < f) (h4 : b < f) : [a, b, c, d, f] ∈ T.lrings 4 := by
  have hr : [a, b, c, d, f] ∈ T.rows 4 := rows_mem (q := [a, b, c, d]) (rows_mem (q := [a, b, c]) (rows_mem (q := [a, b]) (rows_mem (q := [a]) (rows_one (mem_V.mpr ⟨(kn_ok hT ab).1, (kn_ok hT ab).2.1⟩)) h1 (kn_ok hT ab).2.2.2.1 ab) h2 (kn_ok hT bc).2.2.2.1 bc) h3 (kn_ok hT cd).2.2.2.1 cd) h3' (kn_ok hT df).2.2.2.1 df
  have hi := ins5 hT hn
  rw [ab, bc, cd, df, kn_symm T a f, fa, ac, ad, bd, bf, cf] at hi
  have hi : (T.ins [a, b, c, d, f] : Int) = 5 := hi
  unfold Tb.lrings
  rw [mem_csort, List.mem_filter, lrows_eq, List.mem_filter]
  refine ⟨⟨hr, decide_eq_true hn⟩, ?_⟩
  show (T.kn a f && (decide (T.ins [a, b, c, d, f] = 5) && decide (b < f))) = true
  rw [kn_symm T a f, fa, decide_eq_true (by omega : T.ins [a, b, c, d, f] = 5), decide_eq_true h4]
  rfl
theorem dedI_nodup {l : List Int} (h : l.Nodup) : dedI l = l := by
  rw [dedI_new]
  have key : ∀ (l acc : List Int), (acc ++ l).Nodup → l.foldl addNew acc = acc ++ l := by
    intro l
    induction l with
    | nil => intro acc _; simp
    | cons x l ih =>
      intro acc hn
      have hx : x ∉ acc := fun hx => (List.nodup_append.mp hn).2.2 x hx x List.mem_cons_self rfl
      rw [List.foldl_cons, show addNew acc x = acc ++ [x] from if_neg hx, ih _ (by rw [List.append_assoc]; exact hn), List.append_assoc]
      rfl
  exact key l [] h
theorem far_row {T : Tb} (hT : T.Ok) {a b c d : Int} (h1 : a < b) (h2 : c < d) (h3 : a < c) (ab : T.kn a b = true) (cd : T.kn c d = true) (nad : a ≠ d) (nbc : b ≠ c) (nbd : b ≠ d) (ac : T.kn a c = false) (ad : T.kn a d = false) (bc : T.kn b c = false) (bd : T.kn b d = false) : [a, b, c, d] ∈ T.far := by
  have m1 : (a, b) ∈ T.2 := by rw [kn_lt h1] at ab; exact of_decide_eq_true ab
  have m2 : (c, d) ∈ T.2 := by rw [kn_lt h2] at cd; exact of_decide_eq_true cd
  refine List.mem_flatMap.mpr ⟨(a, b), m1, List.mem_map.mpr ⟨(c, d), List.mem_filter.mpr ⟨m2, ?_⟩, rfl⟩⟩
  have hn : [a, b, c, d].Nodup := by
    simp only [List.nodup_cons, List.mem_cons, List.not_mem_nil, or_false, not_or, List.nodup_nil, and_true, not_false_eq_true]
    exact ⟨⟨by omega, by omega, nad⟩, ⟨nbc, nbd⟩, by omega⟩
  unfold Tb.isFar
  dsimp only
  rw [dedI_nodup hn, ac, ad, bc, bd, decide_eq_true h3]
  rfl
theorem noBar_of {T : Tb} (hT : T.Ok) (h3 : T.lrings 3 = []) (hf : T.far = []) (h4 : T.lrings 4 = []) : NoBar T.V T.kn := by
  have S : ∀ {a b c d : Int}, T.kn a b = true → T.kn b c = true → T.kn c d = true → T.kn d a = true → T.kn a c = false → T.kn b d = false → a < b → a < c → a < d → b < d → False := fun ab bc cd da ac bd h1 h2 h5 h6 => by
    have := sq_row hT ab bc cd da ac bd h1 h2 h5 h6
    rw [h3] at this; cases this
  have F : ∀ {a b c d : Int}, a < b → c < d → a < c → T.kn a b = true → T.kn c d = true → a ≠ d → b ≠ c → b ≠ d → T.kn a c = false → T.kn a d = false → T.kn b c = false → T.kn b d = false → False := fun q1 q2 q3 ab cd nad nbc nbd ac ad bc bd => by
    have := far_row hT q1 q2 q3 ab cd nad nbc nbd ac ad bc bd
    rw [hf] at this; cases this
  have sy := kn_symm T
  refine ⟨fun a _ b _ c _ d _ ab bc cd da nac nbd ac bd => ?_, fun a _ b _ c _ d _ ab cd nac nad nbc nbd ac ad bc bd => ?_, fun a _ b _ c _ d _ e _ nd ab bc cd de ea ac ad bd be ce => ?_⟩
  · have hab := kn_ne hT ab
    have hbc := kn_ne hT bc
    have hcd := kn_ne hT cd
    have hda := kn_ne hT da
    have ba : T.kn b a = true := by rw [sy]; exact ab
    have cb : T.kn c b = true := by rw [sy]; exact bc
    have dc : T.kn d c = true := by rw [sy]; exact cd
    have ad : T.kn a d = true := by rw [sy]; exact da
    have ca : T.kn c a = false := by rw [sy]; exact ac
    have db : T.kn d b = false := by rw [sy]; exact bd
    rcases Int.lt_or_gt_of_ne nac with q | q <;> rcases Int.lt_or_gt_of_ne nbd with q2 | q2
    · rcases Int.lt_or_gt_of_ne hab with q3 | q3
      · exact S ab bc cd da ac bd (by omega) (by omega) (by omega) (by omega)
      · exact S ba ad dc cb bd ac (by omega) (by omega) (by omega) (by omega)
    · rcases Int.lt_or_gt_of_ne hda with q3 | q3
      · exact S da ab bc cd db ac (by omega) (by omega) (by omega) (by omega)
      · exact S ad dc cb ba ac db (by omega) (by omega) (by omega) (by omega)
    · rcases Int.lt_or_gt_of_ne hbc with q3 | q3
      · exact S bc cd da ab bd ca (by omega) (by omega) (by omega) (by omega)
      · exact S cb ba ad dc ca bd (by omega) (by omega) (by omega) (by omega)
    · rcases Int.lt_or_gt_of_ne hcd with q3 | q3
      · exact S cd da ab bc ca db (by omega) (by omega) (by omega) (by omega)
      · exact S dc cb ba ad db ca (by omega) (by omega) (by omega) (by omega)
  · have hab := kn_ne hT ab
    have hcd := kn_ne hT cd
    have ba : T.kn b a = true := by rw [sy]; exact ab
    have dc : T.kn d c = true := by rw [sy]; exact cd
    have ca : T.kn c a = false := by rw [sy]; exact ac
    have da : T.kn d a = false := by rw [sy]; exact ad
    have cb : T.kn c b = false := by rw [sy]; exact bc
    have db : T.kn d b = false := by rw [sy]; exact bd
    rcases Int.lt_or_gt_of_ne hab with q | q <;> rcases Int.lt_or_gt_of_ne hcd with q2 | q2
    · rcases Int.lt_or_gt_of_ne nac with q3 | q3
      · exact F q q2 q3 ab cd nad nbc nbd ac ad bc bd
      · exact F q2 q q3 cd ab nbc.symm nad.symm nbd.symm ca cb da db
    · rcases Int.lt_or_gt_of_ne nad with q3 | q3
      · exact F q q2 q3 ab dc nac nbd nbc ad ac bd bc
      · exact F q2 q q3 dc ab nbd.symm nac.symm nbc.symm da db ca cb
    · rcases Int.lt_or_gt_of_ne nbc with q3 | q3
      · exact F q q2 q3 ba cd nbd nac nad bc bd ac ad
      · exact F q2 q q3 cd ba nac.symm nbd.symm nad.symm cb ca db da
    · rcases Int.lt_or_gt_of_ne nbd with q3 | q3
      · exact F q q2 q3 ba dc nbc nad nac bd bc ad ac
      · exact F q2 q q3 dc ba nad.symm nbc.symm nac.symm db da cb ca
  · have P : ∀ {a b c d e : Int}, [a, b, c, d, e].Nodup → T.kn a b = true → T.kn b c = true → T.kn c d = true → T.kn d e = true → T.kn e a = true → T.kn a c = false → T.kn a d = false → T.kn b d = false → T.kn b e = false → T.kn c e = false → a < b → a < c → a < d → a < e → False := fun {a b c d e} nd ab bc cd de ea ac ad bd be ce h1 h2 h5 h6 => by
      have nd2 := nd
      simp only [List.nodup_cons, List.mem_cons, List.not_mem_nil, or_false, not_or, List.nodup_nil, and_true, not_false_eq_true] at nd2
      obtain ⟨⟨nab, nac, nad, nae⟩, ⟨nbc, nbd, nbe⟩, ⟨ncd, nce⟩, nde⟩ := nd2
      rcases Int.lt_or_gt_of_ne nbe with q | q
      · have := five_row hT nd ab bc cd de ea ac ad bd be ce h1 h2 h5 h6 q
        rw [h4] at this; cases this
      · have := five_row hT (a := a) (b := e) (c := d) (d := c) (f := b) (by
          simp only [List.nodup_cons, List.mem_cons, List.not_mem_nil, or_false, not_or, List.nodup_nil, and_true, not_false_eq_true]
          exact ⟨⟨nae, nad, nac, nab⟩, ⟨Ne.symm nde, Ne.symm nce, Ne.symm nbe⟩, ⟨Ne.symm ncd, Ne.symm nbd⟩, Ne.symm nbc⟩) (by rw [sy]; exact ea) (by rw [sy]; exact de) (by rw [sy]; exact cd) (by rw [sy]; exact bc) (by rw [sy]; exact ab) ad ac (by rw [sy]; exact ce) (by rw [sy]; exact be) (by rw [sy]; exact bd) h6 h5 h2 h1 q
        rw [h4] at this; cases this
    have nd2 := nd
    simp only [List.nodup_cons, List.mem_cons, List.not_mem_nil, or_false, not_or, List.nodup_nil, and_true, not_false_eq_true] at nd2
    obtain ⟨⟨nab, nac, nad, nae⟩, ⟨nbc, nbd, nbe⟩, ⟨ncd, nce⟩, nde⟩ := nd2
    have ca : T.kn c a = false := by rw [sy]; exact ac
    have da : T.kn d a = false := by rw [sy]; exact ad
    have db : T.kn d b = false := by rw [sy]; exact bd
    have eb : T.kn e b = false := by rw [sy]; exact be
    have ec : T.kn e c = false := by rw [sy]; exact ce
    have hmin : (a < b ∧ a < c ∧ a < d ∧ a < e) ∨ (b < c ∧ b < d ∧ b < e ∧ b < a) ∨ (c < d ∧ c < e ∧ c < a ∧ c < b) ∨ (d < e ∧ d < a ∧ d < b ∧ d < c) ∨ (e < a ∧ e < b ∧ e < c ∧ e < d) := by omega
    rcases hmin with ⟨q1, q2, q3, q4⟩ | ⟨q1, q2, q3, q4⟩ | ⟨q1, q2, q3, q4⟩ | ⟨q1, q2, q3, q4⟩ | ⟨q1, q2, q3, q4⟩
    · exact P nd ab bc cd de ea ac ad bd be ce q1 q2 q3 q4
    · refine P (a := b) (b := c) (c := d) (d := e) (e := a) ?_ bc cd de ea ab bd be ce ca da q1 q2 q3 q4
      simp only [List.nodup_cons, List.mem_cons, List.not_mem_nil, or_false, not_or, List.nodup_nil, and_true, not_false_eq_true]
      exact ⟨⟨nbc, nbd, nbe, Ne.symm nab⟩, ⟨ncd, nce, Ne.symm nac⟩, ⟨nde, Ne.symm nad⟩, Ne.symm nae⟩
    · refine P (a := c) (b := d) (c := e) (d := a) (e := b) ?_ cd de ea ab bc ce ca da db eb q1 q2 q3 q4
      simp only [List.nodup_cons, List.mem_cons, List.not_mem_nil, or_false, not_or, List.nodup_nil, and_true, not_false_eq_true]
      exact ⟨⟨ncd, nce, Ne.symm nac, Ne.symm nbc⟩, ⟨nde, Ne.symm nad, Ne.symm nbd⟩, ⟨Ne.symm nae, Ne.symm nbe⟩, nab⟩
    · refine P (a := d) (b := e) (c := a) (d := b) (e := c) ?_ de ea ab bc cd da db eb ec ac q1 q2 q3 q4
      simp only [List.nodup_cons, List.mem_cons, List.not_mem_nil, or_false, not_or, List.nodup_nil, and_true, not_false_eq_true]
      exact ⟨⟨nde, Ne.symm nad, Ne.symm nbd, Ne.symm ncd⟩, ⟨Ne.symm nae, Ne.symm nbe, Ne.symm nce⟩, ⟨nab, nac⟩, nbc⟩
    · refine P (a := e) (b := a) (c := b) (d := c) (e := d) ?_ ea ab bc cd de eb ec ac ad bd q1 q2 q3 q4
      simp only [List.nodup_cons, List.mem_cons, List.not_mem_nil, or_false, not_or, List.nodup_nil, and_true, not_false_eq_true]
      exact ⟨⟨Ne.symm nae, Ne.symm nbe, Ne.symm nce, Ne.symm nde⟩, ⟨nab, nac, nad⟩, ⟨nbc, nbd⟩, ncd⟩
theorem lring_bar {T : Tb} (hT : T.Ok) {r : List Int} (h : r ∈ T.lrings 3) (B : NoBar T.V T.kn) : False := by
  unfold Tb.lrings at h
  rw [mem_csort, List.mem_filter, lrows_eq, List.mem_filter] at h
  obtain ⟨⟨hr, hn⟩, hg⟩ := h
  have hV := rows_range hT hr
  obtain ⟨a, b, c, d, rfl, hm, e⟩ := good4 hT hr
  rw [hn, hg, kam4] at e
  simp only [Bool.and_eq_true, Bool.not_eq_true', decide_eq_true_eq, List.headD_cons, Bool.true_and] at e
  obtain ⟨⟨_, ab, bc, cd, ad, ac, bd⟩, _⟩ := e
  have nd := of_decide_eq_true hn
  have hab : a ∈ T.V := mem_V.mpr (hV a (by simp))
  have hbb : b ∈ T.V := mem_V.mpr (hV b (by simp))
  have hcb : c ∈ T.V := mem_V.mpr (hV c (by simp))
  have hdb : d ∈ T.V := mem_V.mpr (hV d (by simp))
  simp only [List.nodup_cons, List.mem_cons, List.not_mem_nil, or_false, not_or] at nd
  exact B.sq a hab b hbb c hcb d hdb ab bc cd (by rw [kn_symm]; exact ad) nd.1.2.1 nd.2.1.2 ac bd
theorem lfive_bar {T : Tb} (hT : T.Ok) {r : List Int} (h : r ∈ T.lrings 4) (B : NoBar T.V T.kn) : False := by
  unfold Tb.lrings at h
  rw [mem_csort, List.mem_filter, lrows_eq, List.mem_filter] at h
  obtain ⟨⟨hr, hn⟩, hg⟩ := h
  have hV := rows_range hT hr
  obtain ⟨a, b, c, d, f, rfl, hm, e⟩ := good5 hT hr
  rw [hn, hg, kam5] at e
  simp only [Bool.and_eq_true, Bool.not_eq_true', decide_eq_true_eq, Bool.true_and] at e
  obtain ⟨⟨_, ab, bc, cd, df, af, ac, ad, bd, bf, cf⟩, _⟩ := e
  have nd := of_decide_eq_true hn
  exact B.five a (mem_V.mpr (hV a (by simp))) b (mem_V.mpr (hV b (by simp))) c (mem_V.mpr (hV c (by simp))) d (mem_V.mpr (hV d (by simp))) f (mem_V.mpr (hV f (by simp))) nd ab bc cd df (by rw [kn_symm]; exact af) ac ad bd bf cf
theorem far_bar {T : Tb} (hT : T.Ok) {r : List Int} (h : r ∈ T.far) (B : NoBar T.V T.kn) : False := by
  obtain ⟨x, hx, h⟩ := List.mem_flatMap.mp h
  obtain ⟨y, hy0, _⟩ := List.mem_map.mp h
  obtain ⟨hy, hf⟩ := List.mem_filter.mp hy0
  obtain ⟨a, b⟩ := x
  obtain ⟨c, d⟩ := y
  have h1 := hT.mem _ hx
  have h2 := hT.mem _ hy
  unfold Tb.isFar at hf
  simp only [Bool.and_eq_true, Bool.not_eq_true', decide_eq_true_eq] at hf h1 h2
  obtain ⟨h4, ⟨ac, ad, bc, bd⟩, _⟩ := hf
  rw [dedI_new] at h4
  have nd := four_apart h4
  simp only [List.nodup_cons, List.mem_cons, List.not_mem_nil, or_false, not_or] at nd
  exact B.far a (mem_V.mpr (by omega)) b (mem_V.mpr (by omega)) c (mem_V.mpr (by omega)) d (mem_V.mpr (by omega)) (by rw [kn_lt (by omega)]; exact decide_eq_true hx) (by rw [kn_lt (by omega)]; exact decide_eq_true hy) nd.1.2.1 nd.1.2.2 nd.2.1.1 nd.2.1.2 ac ad bc bd
theorem bars_iff {T : Tb} (hT : T.Ok) : T.bars = [] ↔ T.lack = 0 := by
  unfold Tb.bars
  rw [List.append_eq_nil_iff, List.append_eq_nil_iff, List.map_eq_nil_iff, List.map_eq_nil_iff, List.map_eq_nil_iff]
  constructor
  · rintro ⟨⟨h3, hf⟩, h4⟩
    have hf : T.far = [] := by
      have := csort_perm T.far
      rw [hf] at this
      exact this.symm.eq_nil
    obtain ⟨s, _, h⟩ := split_of hT.gr (noBar_of hT h3 hf h4)
    have h1 := (is_lack hT).le s
    have h2 := (is_lack hT).nn
    omega
  · intro h
    obtain ⟨s, _, e⟩ := (is_lack hT).ex
    have B := NoBar.of hT.gr (e.trans h)
    refine ⟨⟨List.eq_nil_iff_forall_not_mem.mpr fun r hr => lring_bar hT hr B, List.eq_nil_iff_forall_not_mem.mpr fun r hr => far_bar hT (mem_csort.mp hr) B⟩, List.eq_nil_iff_forall_not_mem.mpr fun r hr => lfive_bar hT hr B⟩
end
end P92

set_option Elab.async false
set_option linter.all false
set_option maxRecDepth 100000
set_option maxHeartbeats 1000000
namespace P92
open PySem PySem.Spec PyProof.Rows L2 PW Cod GT
section
local macro_rules | `(tactic| array_get_dec) => `(tactic| try simp only [W.need_len, W.need_len1, W.need_len2, W.need_len3, W.need_len4, W.need_sz0, W.need_sz1, W.need_sz2, W.need_sz3, W.need_sz4, W.need_sz5, forW_nil, forW_cons, Bool.true_and, Bool.not_true, Bool.not_false, wipeE, W.bind_pure, W.need_T, D.asLst_lst, seqW, W.run_bind, W.run_pure, W.run_need, W.run_fail, W.run_fa, W.run_ite, W.pure_bind, W.fail_bind, W.bind_assoc, W.ite_bind, W.some?_some, getV_zero, getV_succ, startE, List.length_cons, List.length_nil, List.map_cons, List.map_nil, List.cons_append, List.nil_append, List.replicate, List.set_cons_zero, List.set_cons_succ, D.eq_int, D.ne_int, D.add_int, D.add_lst, D.add_tup, D.sub_int, D.mul_int, D.mul_0, D.mul_1, D.mul_one, D.fdiv_int, D.mod_int, D.lt_int, D.le_int, D.gt_int, D.ge_int, D.tr_bl, D.truth_bl, D.int1_int, D.int1_bl, D.asInt_int, D.slice_lst, D.slice_tup, D.ix_lst, D.ix_tup, D.bagI_bag, D.bagC_bag, D.bagSet_bag, D.bagAdd_int, D.isBag_bag, D.len_lst, D.len_tup, D.min_int, D.max_int, D.abs_int, D.neg_int, D.tuple_lst, D.tuple_tup, D.iter_lst, D.iter_tup, D.items_lst, D.items_tup, D.rev_lst, atI_zero, atI_one, atI_two, atI_three, atI_four, atI_neg1, setAll_nil, setAll_cons, Tgt.set_nm, Tgt.set_tp, fin_rt, fin_nx, W.ite_and, W.ite_or, W.ite_andD, W.ite_orD, Bool.false_eq_true, if_true, if_false])
theorem merge_new (kvs : List (Key × D)) (h : (kvs.map (·.1)).Nodup) : mergeD kvs = kvs := by
  unfold mergeD
  have key : ∀ (ys acc : List (Key × D)), ((acc ++ ys).map (·.1)).Nodup → ys.foldl (fun acc kv => putD acc kv.1 kv.2) acc = acc ++ ys := by
    intro ys
    induction ys with
    | nil => intro acc _; simp
    | cons y ys ih =>
      intro acc hn
      have hx : y.1 ∉ acc.map (·.1) := fun hx => by
        rw [List.map_append, List.map_cons] at hn
        exact (List.nodup_append.mp hn).2.2 _ hx _ List.mem_cons_self rfl
      rw [List.foldl_cons, put_new hx, ih _ (by rw [List.append_assoc]; exact hn), List.append_assoc]
      rfl
  exact key kvs [] h
theorem pairs_places (xs : List (Int × Int)) : pairsD (xs.map fun p => enc (p.2, p.1)) = some (xs.map fun p => ((Sum.inl p.2 : Key), D.int p.1)) := by
  induction xs with
  | nil => rfl
  | cons x xs ih =>
    rw [List.map_cons, enc_pair, pairsD, ih]
    rfl
def inBoth (l : List Int) (c : Int × Int) : Bool := decide (c.1 ∈ l) && decide (c.2 ∈ l)
def Tb.part (T : Tb) (l : List Int) : Tb := (l.length, (T.2.filter (inBoth l)).map fun c => ((l.idxOf c.1 : Int), (l.idxOf c.2 : Int)))
theorem part_lc {fi : PW.Env → W (List D)} (T : Tb) (l : List Int) (hn : l.Nodup) {ρ : PW.Env} {p : PW.Env → W Bool} {f : PW.Env → W D} (hi : fi ρ = W.pure (T.2.map enc)) (hw : wipeE ρ [5, 6] = [some T.e, some (enc l), some (.dK (places l)), none, none, none, none])
    (hp : p = fun ρ => ((getV ρ 5).bind fun a => (getV ρ 2).bind fun a_1 => (a.in a_1).bind fun a => a.tr.bind fun a => if a = true then (getV ρ 6).bind fun a => (getV ρ 2).bind fun a_2 => (a.in a_2).bind D.tr else W.pure false))
    (hf : f = fun ρ => ((getV ρ 2).bind fun a => (getV ρ 5).bind fun a_1 => (a.ix a_1).bind fun a => (getV ρ 2).bind fun a_2 => (getV ρ 6).bind fun a_3 => (a_2.ix a_3).bind fun a_4 => W.pure (D.tup [a, a_4]))) :
    lcW fi (.tp [5, 6]) p f [5, 6] ρ = W.pure (.lst ((T.part l).2.map enc)) := by
  rw [lc_tp T.2 (fun c => enc c.1) (fun c => enc c.2) (inBoth l) (fun c => enc ((l.idxOf c.1 : Int), (l.idxOf c.2 : Int))) hi hw (fun c _ => by
      subst hp
      array_get_dec
      rw [enc_int, enc_int, places_in l hn, places_in l hn]
      array_get_dec
      rfl) (fun c _ hc => by
      have hc := Bool.and_eq_true_iff.mp (show (decide (c.1 ∈ l) && decide (c.2 ∈ l)) = true from hc)
      subst hf
      array_get_dec
      rw [enc_int, enc_int, places_ix hn (of_decide_eq_true hc.1), places_ix hn (of_decide_eq_true hc.2)]
      rfl)]
  unfold Tb.part
  rw [List.map_map]
  rfl
theorem part_of (T : Tb) (l : List Int) (hl : T.isLot l = true) (h0 : l ≠ []) (h64 : l.length ≤ 64) : F_part_of [T.e, enc l] = W.pure (T.part l).e := by
  have hn : l.Nodup := (of_decide_eq_true (Bool.and_eq_true_iff.mp hl).1 : l.Pairwise fun a b => a < b).imp fun {a b} h e => by omega
  unfold F_part_of defW B_part_of
  array_get_dec
  rw [is_lot, hl]
  array_get_dec
  rw [show (D.tup []) = enc ([] : List Int) from rfl, D.eq_enc, decide_eq_false h0]
  array_get_dec
  rw [dc_new (enumI l) enc (fun p => [some T.e, some (enc l), none, some (.int p.1), some (.int p.2), none, none]) (fun p => (Sum.inl p.2 : Key)) (fun p => D.int p.1) (by
      array_get_dec
      rw [enc_list, D.enum_tup]) rfl (fun p _ => rfl) (fun _ _ => rfl) (fun _ _ => rfl) (fun _ _ => rfl) (by rw [places_keys]; exact inl_nodup hn) (by rw [enumI_length]; omega)]
  array_get_dec
  rw [show D.len [enc l] = W.pure (.int l.length) from by rw [enc_list, D.len_tup, List.length_map]]
  array_get_dec
  rw [part_lc T l hn (by unfold Tb.e; array_get_dec) rfl rfl rfl]
  array_get_dec
  rfl
theorem law_part_of (T : Tb) (l : List Int) (hn : l.Nodup) (h64 : l.length ≤ 64) : F__law_part_of [T.e, enc l] = W.pure (T.part l).e := by
  unfold F__law_part_of defW B__law_part_of
  array_get_dec
  rw [lc_tpmap (enumI l) (fun p => enc p.1) (fun p => enc p.2) (fun p => enc (p.2, p.1)) (by
      array_get_dec
      rw [enc_list, D.enum_tup]
      rfl) rfl (fun p _ => rfl)]
  array_get_dec
  rw [show D.dict [.lst ((enumI l).map fun p => enc (p.2, p.1))] = W.pure (.dK (places l)) from by
    show (W.some? (pairsD _)).bind (fun kvs => W.pure (D.dK (mergeD kvs))) = _
    rw [pairs_places, W.some?_some, W.pure_bind, merge_new _ (by rw [List.map_map]; exact (by rw [show ((fun x : Key × D => x.1) ∘ fun p : Int × Int => ((Sum.inl p.2 : Key), D.int p.1)) = fun p => (Sum.inl p.2 : Key) from rfl, places_keys]; exact inl_nodup hn))]
    rfl]
  array_get_dec
  rw [show D.len [enc l] = W.pure (.int l.length) from by rw [enc_list, D.len_tup, List.length_map]]
  array_get_dec
  rw [part_lc T l hn (by unfold Tb.e; array_get_dec) rfl rfl rfl]
  array_get_dec
  rfl
theorem is_still (T : Tb) {L : List (List Int)} (h : F_changes [T.e] = W.pure (enc L)) : F_is_still [T.e] = W.pure (.bl (decide (L = []))) := by
  unfold F_is_still defW B_is_still
  array_get_dec
  rw [h]
  array_get_dec
  rw [show (D.tup []) = enc ([] : List (List Int)) from rfl, D.eq_enc]
  array_get_dec
end
end P92

set_option Elab.async false
set_option linter.all false
set_option maxRecDepth 100000
set_option maxHeartbeats 1000000
namespace P92
open PySem PySem.Spec PyProof.Rows L2 PW Cod GT
section
local macro_rules | `(tactic| array_get_dec) => `(tactic| try simp only [W.need_len, W.need_len1, W.need_len2, W.need_len3, W.need_len4, W.need_sz0, W.need_sz1, W.need_sz2, W.need_sz3, W.need_sz4, W.need_sz5, forW_nil, forW_cons, Bool.true_and, Bool.not_true, Bool.not_false, wipeE, W.bind_pure, W.need_T, D.asLst_lst, seqW, W.run_bind, W.run_pure, W.run_need, W.run_fail, W.run_fa, W.run_ite, W.pure_bind, W.fail_bind, W.bind_assoc, W.ite_bind, W.some?_some, getV_zero, getV_succ, startE, List.length_cons, List.length_nil, List.map_cons, List.map_nil, List.cons_append, List.nil_append, List.replicate, List.set_cons_zero, List.set_cons_succ, D.eq_int, D.ne_int, D.add_int, D.add_lst, D.add_tup, D.sub_int, D.mul_int, D.mul_0, D.mul_1, D.mul_one, D.fdiv_int, D.mod_int, D.lt_int, D.le_int, D.gt_int, D.ge_int, D.tr_bl, D.truth_bl, D.int1_int, D.int1_bl, D.asInt_int, D.slice_lst, D.slice_tup, D.ix_lst, D.ix_tup, D.bagI_bag, D.bagC_bag, D.bagSet_bag, D.bagAdd_int, D.isBag_bag, D.len_lst, D.len_tup, D.min_int, D.max_int, D.abs_int, D.neg_int, D.tuple_lst, D.tuple_tup, D.iter_lst, D.iter_tup, D.items_lst, D.items_tup, D.rev_lst, atI_zero, atI_one, atI_two, atI_three, atI_four, atI_neg1, setAll_nil, setAll_cons, Tgt.set_nm, Tgt.set_tp, fin_rt, fin_nx, W.ite_and, W.ite_or, W.ite_andD, W.ite_orD, Bool.false_eq_true, if_true, if_false])
theorem take_run {n : Int} (h1 : 1 ≤ n) (h2 : n < 1000000) {Q : D → Prop} (q : ∀ k : Int, 0 ≤ k → k < n → Q (.int k)) : (F__law_take [.bag, .int n]).run Q := by
  show (1 ≤ n ∧ n < 1073741824) ∧ ∀ i : Int, (0 ≤ i ∧ i < n) → Q (.int i)
  exact ⟨⟨h1, by omega⟩, fun k hk => q k hk.1 hk.2⟩
theorem some_run {ds : List D} (h : ds ≠ []) (hl : ds.length < 1000000) {Q : D → Prop} (q : ∀ d ∈ ds, Q d) : (F__law_some [.bag, .lst ds]).run Q := by
  unfold F__law_some defW B__law_some
  array_get_dec
  have hp : 0 < ds.length := List.length_pos_iff.mpr h
  refine take_run (by omega) (by omega) fun k h0 h1 => ?_
  array_get_dec
  rw [atI_nn _ h0, List.getElem?_eq_getElem (by omega)]
  exact q _ (List.getElem_mem _)
theorem law_parted {Q : D → Prop} (q : ∀ (T : Tb) (l : List Int), T.Ok → 1 ≤ T.1 → Q (.tup [T.e, enc l])) : (F__law_parted [.bag, .int 6]).run Q := by
  unfold F__law_parted defW B__law_parted
  array_get_dec
  refine take_run (by decide) (by decide) fun m h0 h1 => ?_
  array_get_dec
  rw [law_lots (1 + m) (by omega) (by omega)]
  array_get_dec
  have h64 := lots_64 (xs := rngI 0 (1 + m)) (by rw [rngI_length]; omega)
  have hpos : 0 < (lots0 (rngI 0 (1 + m))).length := by rw [lots0_len]; exact Nat.pow_pos (by decide)
  refine some_run (fun e => ?_) (by rw [List.length_map, csort_length]; omega) fun d hd => ?_
  · have := congrArg List.length e
    rw [List.length_map, csort_length, List.length_nil] at this
    omega
  obtain ⟨l, hl, rfl⟩ := List.mem_map.mp hd
  rw [law_couples (1 + m) (by omega) (by omega)]
  array_get_dec
  refine for_run (e := enc) (fun done ρ => ∃ (kn : List (Int × Int)) (a b c : Option D), kn.Sublist done ∧ ρ = [some .bag, some (.int 6), some (.int (1 + m)), some (enc l), some (.lst (kn.map enc)), a, b, c]) (cpl (1 + m)) _ _ ⟨[], none, none, none, List.Sublist.refl _, rfl⟩ (fun done x rest ρ hx ⟨kn, a, b, c, hk, hρ⟩ => by
    subst hρ
    have h36 := cpl_len (1 + m) (by omega)
    have hlen : kn.length + 1 ≤ 36 := by
      have := hk.length_le
      have e := congrArg List.length hx
      rw [List.length_append, List.length_cons] at e
      omega
    rw [enc_pair]
    array_get_dec
    have keep : ∀ o : Option D, ∃ (kn' : List (Int × Int)) (a b c : Option D), kn'.Sublist (done ++ [x]) ∧ [some D.bag, some (D.int 6), some (D.int (1 + m)), some (enc l), some (D.lst (kn.map enc ++ [])), some (enc x.1), some (enc x.2), o] = [some D.bag, some (D.int 6), some (D.int (1 + m)), some (enc l), some (D.lst (kn'.map enc)), a, b, c] := fun o => ⟨kn, _, _, _, hk.trans (List.sublist_append_left _ _), by rw [List.append_nil]⟩
    have more : ∀ o : Option D, ∃ (kn' : List (Int × Int)) (a b c : Option D), kn'.Sublist (done ++ [x]) ∧ [some D.bag, some (D.int 6), some (D.int (1 + m)), some (enc l), some (D.lst (kn.map enc ++ [D.tup [enc x.1, enc x.2]])), some (enc x.1), some (enc x.2), o] = [some D.bag, some (D.int 6), some (D.int (1 + m)), some (enc l), some (D.lst (kn'.map enc)), a, b, c] := fun o => ⟨kn ++ [x], _, _, _, hk.append (List.Sublist.refl _), by rw [List.map_append]; rfl⟩
    have hs1 : (List.map (enc (α := Int × Int)) kn).length + (0 + 1) ≤ sizeLine := size_le (by rw [List.length_map]; omega)
    have hs0 : (List.map (enc (α := Int × Int)) kn).length + 0 ≤ sizeLine := size_le (by rw [List.length_map]; omega)
    rw [show D.in (enc x.1) (enc l) = W.pure (.bl (decide (x.1 ∈ l))) from D.in_tup x.1 l, show D.in (enc x.2) (enc l) = W.pure (.bl (decide (x.2 ∈ l))) from D.in_tup x.2 l]
    array_get_dec
    generalize (if decide (x.1 ∈ l) = true then (1 : Int) else 0) = u
    generalize (if decide (x.2 ∈ l) = true then (1 : Int) else 0) = v
    split
    · exact ⟨hs1, more _⟩
    · split
      · refine take_run (by decide) (by decide) fun k h0 h1 => ?_
        array_get_dec
        cases decide (k = 0) with
        | true =>
          rw [if_pos rfl]
          array_get_dec
          exact ⟨hs1, more _⟩
        | false =>
          rw [if_neg (by simp)]
          array_get_dec
          exact ⟨hs0, keep _⟩
      · exact ⟨hs0, keep _⟩) (fun ρ ⟨kn, a, b, c, hk, hρ⟩ => by
    subst hρ
    array_get_dec
    refine q (1 + m, kn) l ⟨?_, ?_, ?_, ?_⟩ ?_
    · show 0 ≤ 1 + m
      omega
    · show 1 + m ≤ 6
      omega
    · exact (cpl_nodup (1 + m)).sublist hk
    · exact fun c hc => mem_cpl.mp (hk.subset hc)
    · show 1 ≤ 1 + m
      omega)
theorem comp_sub {α : Type} {i : Nat} {p : PW.Env → W Bool} {f : PW.Env → W D} {ρ : PW.Env} (e : α → D) : ∀ (xs : List α) (acc : List D) (Q : List D → Prop), (∀ x ∈ xs, ∀ Q : Bool → Prop, (∀ b, Q b) → (p (ρ.set i (some (e x)))).run Q) → (∀ x ∈ xs, f (ρ.set i (some (e x))) = W.pure (e x)) →
    (∀ ys : List α, ys.Sublist xs → Q (acc ++ ys.map e)) → (compW (.nm i) p f (xs.map e) ρ acc).run Q
  | [], acc, Q, _, _, q => by have := q [] (List.Sublist.refl _); rwa [List.map_nil, List.append_nil] at this
  | x :: xs, acc, Q, hp, hf, q => by
    rw [List.map_cons, compW, Tgt.set_nm, W.pure_bind, W.run_bind]
    refine hp x List.mem_cons_self _ fun b => ?_
    cases b with
    | true =>
      rw [if_pos rfl, hf x List.mem_cons_self, W.pure_bind]
      refine comp_sub e xs _ Q (fun y hy => hp y (List.mem_cons_of_mem _ hy)) (fun y hy => hf y (List.mem_cons_of_mem _ hy)) fun ys hs => ?_
      have := q (x :: ys) (List.cons_sublist_cons.mpr hs)
      rwa [List.append_assoc]
    | false =>
      rw [if_neg (by simp)]
      exact comp_sub e xs _ Q (fun y hy => hp y (List.mem_cons_of_mem _ hy)) (fun y hy => hf y (List.mem_cons_of_mem _ hy)) fun ys hs => q ys (hs.cons _)
theorem lc_sub {α : Type} {i : Nat} {fi : PW.Env → W (List D)} {p : PW.Env → W Bool} {f : PW.Env → W D} {vs : List Nat} {ρ ρ' : PW.Env} (e : α → D) (xs : List α) {Q : D → Prop} (hi : fi ρ = W.pure (xs.map e)) (hw : wipeE ρ vs = ρ') (hp : ∀ x ∈ xs, ∀ Q : Bool → Prop, (∀ b, Q b) → (p (ρ'.set i (some (e x)))).run Q) (hf : ∀ x ∈ xs, f (ρ'.set i (some (e x))) = W.pure (e x))
    (q : ∀ ys : List α, ys.Sublist xs → Q (.lst (ys.map e))) : (lcW fi (.nm i) p f vs ρ).run Q := by
  unfold lcW
  rw [hi, W.pure_bind, hw, W.run_bind]
  exact comp_sub e xs [] _ hp hf fun ys hs => q ys hs
theorem law_table {Q : D → Prop} (q : ∀ T : Tb, T.Ok → 1 ≤ T.1 → Q T.e) : (F__law_table [.bag, .int 6]).run Q := by
  unfold F__law_table defW B__law_table
  array_get_dec
  refine law_parted fun T l hT h1 => ?_
  array_get_dec
  refine take_run (by decide) (by decide) fun k h0 h4 => ?_
  array_get_dec
  have h6 := hT.n6
  split
  · exact q T hT h1
  · have fin_ : ∀ c : Int, 1 ≤ c → c < 1000 → (lcW (fun ρ => (getV ρ 2).bind fun a => (a.ix (D.int 0)).bind fun a => (F__law_couples [a]).bind D.iter) (.nm 6) (fun ρ => ((getV ρ 6).bind fun a => (getV ρ 2).bind fun a_1 => (a_1.ix (D.int 1)).bind fun a_2 => (a.in a_2).bind fun a => (getV ρ 0).bind fun a_3 => (getV ρ 5).bind fun a_4 => (F__law_take [a_3, a_4]).bind fun a_5 => (a_5.eq (D.int 0)).bind fun a_6 => (a.ne a_6).bind D.tr)) (fun ρ => getV ρ 6) [6] [some .bag, some (.int 6), some T.e, some (enc l), some (.int k), some (.int c), none]).run fun a => ((D.tuple [a]).run fun a => Q (.tup [.int T.1, a])) := fun c hc hc2 => by
      refine lc_sub (α := Int × Int) enc (cpl T.1) (by unfold Tb.e; array_get_dec; rw [law_couples _ (by omega) h6]; array_get_dec) rfl (fun x hx R r => ?_) (fun _ _ => rfl) fun ys hs => ?_
      · unfold Tb.e
        array_get_dec
        rw [D.in_tup]
        array_get_dec
        refine take_run hc (by omega) fun j h0 h1 => ?_
        array_get_dec
        rw [D.ne_bb]
        array_get_dec
        exact r _
      · array_get_dec
        refine q (T.1, ys) ⟨by show 0 ≤ T.1; omega, h6, (cpl_nodup T.1).sublist hs, fun c hc => mem_cpl.mp (hs.subset hc)⟩ h1
    rw [show T.e.ix (.int 0) = W.pure (.int T.1) from rfl]
    array_get_dec
    split
    · exact fin_ 5 (by decide) (by decide)
    · exact fin_ 2 (by decide) (by decide)
end
end P92

set_option Elab.async false
set_option linter.all false
set_option maxRecDepth 100000
set_option maxHeartbeats 1000000
namespace P92
open PySem PySem.Spec PyProof.Rows L2 PW Cod GT
section
local macro_rules | `(tactic| array_get_dec) => `(tactic| try simp only [W.need_len, W.need_len1, W.need_len2, W.need_len3, W.need_len4, W.need_sz0, W.need_sz1, W.need_sz2, W.need_sz3, W.need_sz4, W.need_sz5, forW_nil, forW_cons, Bool.true_and, Bool.not_true, Bool.not_false, wipeE, W.bind_pure, W.need_T, D.asLst_lst, seqW, W.run_bind, W.run_pure, W.run_need, W.run_fail, W.run_fa, W.run_ite, W.pure_bind, W.fail_bind, W.bind_assoc, W.ite_bind, W.some?_some, getV_zero, getV_succ, startE, List.length_cons, List.length_nil, List.map_cons, List.map_nil, List.cons_append, List.nil_append, List.replicate, List.set_cons_zero, List.set_cons_succ, D.eq_int, D.ne_int, D.add_int, D.add_lst, D.add_tup, D.sub_int, D.mul_int, D.mul_0, D.mul_1, D.mul_one, D.fdiv_int, D.mod_int, D.lt_int, D.le_int, D.gt_int, D.ge_int, D.tr_bl, D.truth_bl, D.int1_int, D.int1_bl, D.asInt_int, D.slice_lst, D.slice_tup, D.ix_lst, D.ix_tup, D.bagI_bag, D.bagC_bag, D.bagSet_bag, D.bagAdd_int, D.isBag_bag, D.len_lst, D.len_tup, D.min_int, D.max_int, D.abs_int, D.neg_int, D.tuple_lst, D.tuple_tup, D.iter_lst, D.iter_tup, D.items_lst, D.items_tup, D.rev_lst, atI_zero, atI_one, atI_two, atI_three, atI_four, atI_neg1, setAll_nil, setAll_cons, Tgt.set_nm, Tgt.set_tp, fin_rt, fin_nx, W.ite_and, W.ite_or, W.ite_andD, W.ite_orD, Bool.false_eq_true, if_true, if_false])
theorem sorted_sub {l xs : List Int} (hl : l.Pairwise fun a b => a < b) (hx : xs.Pairwise fun a b => a < b) (h : ∀ v ∈ l, v ∈ xs) : l.Sublist xs := by
  induction xs generalizing l with
  | nil =>
    cases l with
    | nil => exact List.Sublist.refl _
    | cons v l => cases h v List.mem_cons_self
  | cons x xs ih =>
    obtain ⟨hx1, hx2⟩ := List.pairwise_cons.mp hx
    cases l with
    | nil => exact List.nil_sublist _
    | cons v l =>
      obtain ⟨hl1, hl2⟩ := List.pairwise_cons.mp hl
      rcases List.mem_cons.mp (h v List.mem_cons_self) with e | hv
      · subst e
        refine List.cons_sublist_cons.mpr (ih hl2 hx2 fun w hw => ?_)
        rcases List.mem_cons.mp (h w (List.mem_cons_of_mem _ hw)) with e | h2
        · have := hl1 w hw; omega
        · exact h2
      · refine (ih hl hx2 fun w hw => ?_).cons _
        rcases List.mem_cons.mp hw with e | hw
        · rw [e]; exact hv
        · rcases List.mem_cons.mp (h w (List.mem_cons_of_mem _ hw)) with e | h2
          · have h3 := hl1 w hw
            have h4 := hx1 v hv
            omega
          · exact h2
theorem top_lot (T : Tb) : T.top ∈ lots0 (rngI 0 T.1) := by
  refine (mem_lots0 _ _).mpr (sorted_sub (csort_rise ?_) (rngI_lt _ _) top_V)
  exact (ord_nodup T).sublist (List.take_sublist _ _)
theorem every_mem {T : Tb} {l : List Int} : l ∈ T.every ↔ l.Sublist (rngI 0 T.1) ∧ T.parts l = true := by
  unfold Tb.every
  rw [List.mem_filter, mem_csort, mem_lots0]
theorem lot_V {T : Tb} {l : List Int} (h : l.Sublist (rngI 0 T.1)) : ∀ v ∈ l, v ∈ T.V := fun v hv => h.subset hv
theorem lack_parts {T : Tb} (hT : T.Ok) {l : List Int} (h : l.Sublist (rngI 0 T.1)) (hp : T.parts l = true) : T.lack = 0 := by
  have h1 := (parts_iff (lot_V h)).mp hp
  have h2 := (is_lack hT).le (inl l)
  have h3 := (is_lack hT).nn
  omega
theorem top_parts {T : Tb} (hT : T.Ok) : T.parts T.top = true ↔ T.lack = 0 := by
  rw [parts_iff top_V, lack_top hT]
theorem every_iff {T : Tb} (hT : T.Ok) : T.every = [] ↔ T.lack ≠ 0 := by
  constructor
  · intro h e
    have := every_mem.mpr ⟨(mem_lots0 _ _).mp (top_lot T), (top_parts hT).mpr e⟩
    rw [h] at this
    cases this
  · intro h
    refine List.eq_nil_iff_forall_not_mem.mpr fun l hl => ?_
    obtain ⟨h1, h2⟩ := every_mem.mp hl
    exact h (lack_parts hT h1 h2)
theorem lack_even {T : Tb} (hT : T.Ok) : 2 * (T.lack / 2) = T.lack := by
  obtain ⟨k, hk⟩ := (is_lack hT).even hT.gr
  omega
/-! counts by couples -/
def lcn (K : List (Int × Int)) (v : Int) : Int := sm K fun c => ind (decide (v = c.1) || decide (v = c.2))
theorem cnt_lcn {T : Tb} (hT : T.Ok) (v : Int) : (T.cnt v : Int) = lcn T.2 v := by
  have e : (T.cnt v : Int) = sm T.V fun w => ind (T.kn v w) := (sm_count _).symm
  rw [e, sm_congr fun w _ => kn_sum hT v w, sm_comm]
  unfold lcn
  refine sm_congr fun c hc => ?_
  obtain ⟨x, y⟩ := c
  have hm := hT.mem _ hc
  simp only at hm
  have nd : T.V.Nodup := rngI_nodup _ _
  have hx : x ∈ T.V := mem_V.mpr (by omega)
  have hy : y ∈ T.V := mem_V.mpr (by omega)
  rw [sm_add]
  have e1 : (sm T.V fun w => if ((x, y) : Int × Int) = (v, w) then (1 : Int) else 0) = if v = x then 1 else 0 := by
    by_cases h : v = x
    · subst h
      rw [if_pos rfl, sm_congr (g := fun w => if w = y then (1 : Int) else 0) fun w _ => by
        by_cases z : w = y
        · subst z; simp
        · have : ¬ y = w := fun e => z e.symm
          simp [z, this], sm_one (f := fun _ => (1 : Int)) nd hy]
    · have : ¬ x = v := fun e => h e.symm
      rw [if_neg h, sm_congr (g := fun _ => 0) fun w _ => by simp [this], sm_zero]
  have e2 : (sm T.V fun w => if ((x, y) : Int × Int) = (w, v) then (1 : Int) else 0) = if v = y then 1 else 0 := by
    by_cases h : v = y
    · subst h
      rw [if_pos rfl, sm_congr (g := fun w => if w = x then (1 : Int) else 0) fun w _ => by
        by_cases z : w = x
        · subst z; simp
        · have : ¬ x = w := fun e => z e.symm
          simp [z, this], sm_one (f := fun _ => (1 : Int)) nd hx]
    · have : ¬ y = v := fun e => h e.symm
      rw [if_neg h, sm_congr (g := fun _ => 0) fun w _ => by simp [this], sm_zero]
  rw [e1, e2]
  dsimp only
  by_cases h1 : v = x <;> by_cases h2 : v = y
  · omega
  · have : ¬ x = y := by omega
    simp [h1, h2, ind, this]
  · have : ¬ y = x := by omega
    simp [h1, h2, ind, this]
  · simp [h1, h2, ind]
theorem lcounts_eq {T : Tb} (hT : T.Ok) : T.lcounts = T.counts := by
  unfold Tb.lcounts Tb.counts
  refine List.map_congr_left fun v _ => ?_
  rw [cnt_lcn hT]
  exact (sm_count _).symm
/-! a change -/
theorem cp_mem {T : Tb} {a b : Int} : cp a b ∈ T.2 ↔ T.kn a b = true := by
  unfold Tb.kn cp
  rw [decide_eq_true_eq]
theorem cp_ends (a b v : Int) : (decide (v = (cp a b).1) || decide (v = (cp a b).2)) = (decide (v = a) || decide (v = b)) := by
  unfold cp
  rw [Bool.eq_iff_iff]
  simp only [Bool.or_eq_true, decide_eq_true_eq]
  omega
theorem cp_inj {a b c d : Int} (h : cp a b = cp c d) : (a = c ∧ b = d) ∨ (a = d ∧ b = c) := by
  unfold cp at h
  rw [Prod.mk.injEq] at h
  omega
section
variable {T : Tb} {a b c d : Int}
theorem Tb.Ok.bych (hT : T.Ok) (h : T.Chg a b c d) : (T.bych a b c d).Ok := by
  have nd := h.nd
  simp only [List.nodup_cons, List.mem_cons, List.not_mem_nil, or_false, not_or, List.nodup_nil, and_true, not_false_eq_true] at nd
  obtain ⟨⟨nab, nac, nad⟩, ⟨nbc, nbd⟩, ncd⟩ := nd
  have h1 := kn_ok hT h.ab
  have h2 := kn_ok hT h.cd
  refine ⟨hT.n0, hT.n6, (csort_perm _).nodup_iff.mpr (List.nodup_append.mpr ⟨hT.nd.filter _, ?_, ?_⟩), fun x hx => ?_⟩
  · simp only [List.nodup_cons, List.mem_cons, List.not_mem_nil, or_false, List.nodup_nil, and_true, not_false_eq_true]
    intro e
    have := cp_inj e
    omega
  · intro x hx y hy e
    subst e
    have hx := (List.mem_filter.mp hx).1
    simp only [List.mem_cons, List.not_mem_nil, or_false] at hy
    rcases hy with rfl | rfl
    · have := cp_mem.mp hx; rw [h.ad] at this; cases this
    · have := cp_mem.mp hx; rw [h.bc] at this; cases this
  · have hx : x ∈ _ := mem_csort.mp hx
    rcases List.mem_append.mp hx with hx | hx
    · exact hT.mem x (List.mem_filter.mp hx).1
    · simp only [List.mem_cons, List.not_mem_nil, or_false] at hx
      show 0 ≤ x.1 ∧ x.1 < x.2 ∧ x.2 < T.1
      rcases hx with rfl | rfl <;> unfold cp <;> simp only <;> omega
theorem bych_lcn (hT : T.Ok) (h : T.Chg a b c d) (v : Int) : lcn (T.bych a b c d).2 v = lcn T.2 v := by
  have nd := h.nd
  simp only [List.nodup_cons, List.mem_cons, List.not_mem_nil, or_false, not_or, List.nodup_nil, and_true, not_false_eq_true] at nd
  obtain ⟨⟨nab, nac, nad⟩, ⟨nbc, nbd⟩, ncd⟩ := nd
  have h1 := cp_mem.mpr h.ab
  have h2 := cp_mem.mpr h.cd
  have ne : cp a b ≠ cp c d := fun e => by have := cp_inj e; omega
  let f : Int × Int → Int := fun c => ind (decide (v = c.1) || decide (v = c.2))
  have hf : ∀ a b, f (cp a b) = ind (decide (v = a) || decide (v = b)) := fun a b => by show ind _ = _; rw [cp_ends]
  have e1 : lcn (T.bych a b c d).2 v = sm (T.2.filter fun x => !decide (x ∈ [cp a b, cp c d])) f + (f (cp a d) + f (cp b c)) := by
    show sm (csort _) f = _
    rw [sm_perm (csort_perm _), sm_append, sm_cons, sm_cons, sm_nil, Int.add_zero]
  have e2 : lcn T.2 v = sm (T.2.filter fun x => !decide (x ∈ [cp a b, cp c d])) f + (f (cp a b) + f (cp c d)) := by
    rw [sm_filter, ← sm_one (f := f) hT.nd h1, ← sm_one (f := f) hT.nd h2, ← sm_add, ← sm_add]
    refine sm_congr fun x _ => ?_
    show f x = _
    by_cases q1 : x = cp a b
    · have q2 : ¬ x = cp c d := fun e => ne (q1.symm.trans e)
      rw [if_pos q1, if_neg q2]
      simp [q1]
    · by_cases q2 : x = cp c d
      · subst q2; simp [q1]
      · simp [q1, q2]
  rw [e1, e2, hf, hf, hf, hf]
  by_cases q1 : v = a
  · subst q1
    simp [nab, nac, nad, ind]
  · by_cases q2 : v = b
    · subst q2
      simp [q1, nbc, nbd, ind]
    · by_cases q3 : v = c
      · subst q3
        simp [q1, q2, ncd, ind]
      · by_cases q4 : v = d
        · subst q4
          simp [q1, q2, q3, ind]
        · simp [q1, q2, q3, q4, ind]
theorem bych_cnt (hT : T.Ok) (h : T.Chg a b c d) (v : Int) : (T.bych a b c d).cnt v = T.cnt v := by
  have e1 := cnt_lcn (hT.bych h) v
  have e2 := cnt_lcn hT v
  rw [bych_lcn hT h v] at e1
  omega
theorem bych_counts (hT : T.Ok) (h : T.Chg a b c d) : (T.bych a b c d).counts = T.counts := by
  unfold Tb.counts
  exact List.map_congr_left fun v _ => by rw [bych_cnt hT h]
theorem bych_lack (hT : T.Ok) (h : T.Chg a b c d) : (T.bych a b c d).lack = T.lack := by
  unfold Tb.lack
  rw [bych_counts hT h]
theorem bych_parts (hT : T.Ok) (h : T.Chg a b c d) {l : List Int} (hl : ∀ v ∈ l, v ∈ T.V) : (T.bych a b c d).parts l = T.parts l := by
  rw [Bool.eq_iff_iff, parts_iff (T := T.bych a b c d) hl, parts_iff hl]
  have e : Wd (T.bych a b c d).V (T.bych a b c d).kn (inl l) = Wd T.V T.kn (inl l) := Wd_counts hT.gr (hT.bych h).gr (fun v _ => by
    have h1 := deg_cnt (T.bych a b c d) v
    rw [bych_cnt hT h, ← deg_cnt] at h1
    exact h1) _
  rw [e]
theorem bych_every (hT : T.Ok) (h : T.Chg a b c d) : (T.bych a b c d).every = T.every := by
  unfold Tb.every
  refine List.filter_congr fun l hl => ?_
  exact bych_parts hT h fun v hv => ((mem_lots0 _ _).mp (mem_csort.mp hl)).subset hv
end
/-! the strangers -/
theorem turn_kn {T : Tb} {u v : Int} (hu : u ∈ T.V) (hv : v ∈ T.V) (h : u ≠ v) : T.turn.kn u v = !T.kn u v := by
  have hu := mem_V.mp hu
  have hv := mem_V.mp hv
  have hc : (min u v, max u v) ∈ cpl T.1 := mem_cpl.mpr (by show 0 ≤ min u v ∧ min u v < max u v ∧ max u v < T.1; omega)
  unfold Tb.kn Tb.turn
  rw [Bool.eq_iff_iff, decide_eq_true_eq, List.mem_filter]
  simp [hc]
theorem turn_lack {T : Tb} (hT : T.Ok) : T.turn.lack = T.lack := IsLack.turn (V := T.V) (A := T.kn) (A' := T.turn.kn) (fun u hu v hv h => turn_kn hu hv h) (is_lack hT) (is_lack hT.turn)
theorem oth_mem {T : Tb} {l : List Int} {v : Int} : v ∈ T.oth l ↔ v ∈ T.V ∧ v ∉ l := by
  unfold Tb.oth Tb.V
  rw [List.mem_filter]
  simp
theorem turn_parts {T : Tb} (hT : T.Ok) {l : List Int} (hl : ∀ v ∈ l, v ∈ T.V) (hp : T.parts l = true) : T.turn.parts (T.oth l) = true := by
  have h1 := (parts_iff hl).mp hp
  refine (parts_iff (T := T.turn) fun v hv => (oth_mem.mp hv).1).mpr ?_
  rw [← h1]
  refine Wd_turn (V := T.V) (fun u hu v hv h => turn_kn hu hv h) fun v hv => ?_
  unfold inl
  rw [← decide_not, decide_eq_decide, oth_mem]
  exact ⟨fun h => h.2, fun h => ⟨hv, h⟩⟩
theorem oth_isLot (T : Tb) (l : List Int) : T.isLot (T.oth l) = true := by
  unfold Tb.isLot
  rw [decide_eq_true (show (T.oth l).Pairwise fun a b => a < b from (rngI_lt 0 T.1).filter _), Bool.true_and, List.all_eq_true]
  intro x hx
  have := mem_V.mp (oth_mem.mp hx).1
  simp [this.1, this.2]
/-! one couple told otherwise -/
theorem tog_kn {T : Tb} (hT : T.Ok) (a b u v : Int) : (T.tog a b).kn u v = if (u = a ∧ v = b) ∨ (u = b ∧ v = a) then !T.kn u v else T.kn u v := by
  have e : ∀ u v, ((min u v, max u v) : Int × Int) = (min a b, max a b) ↔ (u = a ∧ v = b) ∨ (u = b ∧ v = a) := fun u v => by
    rw [Prod.mk.injEq]
    omega
  unfold Tb.tog
  by_cases q : T.kn a b = true
  · rw [if_pos q]
    unfold Tb.kn Tb.without
    by_cases h : (u = a ∧ v = b) ∨ (u = b ∧ v = a)
    · rw [if_pos h]
      have hm : (min a b, max a b) ∈ T.2 := of_decide_eq_true q
      have e2 := (e u v).mpr h
      rw [e2]
      simp [hm, List.mem_filter]
    · rw [if_neg h, decide_eq_decide, List.mem_filter]
      have : ¬ ((min u v, max u v) : Int × Int) = (min a b, max a b) := fun x => h ((e u v).mp x)
      simp [this]
  · rw [if_neg q]
    unfold Tb.kn Tb.withc
    have hm : (min a b, max a b) ∉ T.2 := fun x => q (decide_eq_true x)
    by_cases h : (u = a ∧ v = b) ∨ (u = b ∧ v = a)
    · rw [if_pos h, (e u v).mpr h]
      simp [hm, mem_csort]
    · rw [if_neg h, decide_eq_decide, mem_csort, List.mem_append, List.mem_singleton]
      have : ¬ ((min u v, max u v) : Int × Int) = (min a b, max a b) := fun x => h ((e u v).mp x)
      simp [this]
theorem tog_V (T : Tb) (a b : Int) : (T.tog a b).V = T.V := by
  unfold Tb.tog
  split <;> rfl
theorem Tb.In.tog {T : Tb} (hT : T.Ok) {a b : Int} (h : T.In a b) : Tog T.V T.kn (T.tog a b).kn a b := ⟨mem_V.mpr ⟨h.a0, h.an⟩, mem_V.mpr ⟨h.b0, h.bn⟩, h.ne, tog_kn hT a b⟩
theorem tog_lack {T : Tb} (hT : T.Ok) {a b : Int} (h : T.In a b) : IsLack T.V (T.tog a b).kn (T.tog a b).lack := by
  have := is_lack (hT.tog h)
  rwa [tog_V] at this
theorem tog_gr {T : Tb} (hT : T.Ok) {a b : Int} (h : T.In a b) : Gr T.V (T.tog a b).kn := by
  have := (hT.tog h).gr
  rwa [tog_V] at this
theorem tog_near {T : Tb} (hT : T.Ok) {a b : Int} (h : T.In a b) : (T.tog a b).lack - T.lack = -2 ∨ (T.tog a b).lack - T.lack = 0 ∨ (T.tog a b).lack - T.lack = 2 :=
  Tog.lack hT.gr (tog_gr hT h) (h.tog hT) (is_lack hT) (tog_lack hT h)
theorem better_iff {T : Tb} (hT : T.Ok) : T.better = [] ↔ T.lack = 0 := by
  unfold Tb.better
  rw [List.filter_eq_nil_iff]
  constructor
  · intro h
    refine Classical.byContradiction fun h0 => ?_
    obtain ⟨a, b, ha, hb, hab, hl⟩ := (is_lack hT).better hT.gr h0
    have ha := mem_V.mp ha
    have hb := mem_V.mp hb
    have hI : T.In a b := ⟨ha.1, ha.2, hb.1, hb.2, by omega⟩
    have := hl _ _ (tog_gr hT hI) (hI.tog hT) (tog_lack hT hI)
    exact h (a, b) (mem_cpl.mpr ⟨ha.1, hab, hb.2⟩) (decide_eq_true this)
  · intro h c hc
    have := (tog_lack hT (in_cpl hc)).nn
    rw [decide_eq_true_eq]
    omega
/-! some of the people alone -/
theorem rng_at (l : List Int) : (rngI 0 l.length).map (at_ l) = l := by
  apply List.ext_getElem
  · rw [List.length_map, rngI_length]; omega
  · intro i h1 h2
    rw [List.getElem_map, rngI_get]
    unfold at_
    rw [show (0 + (i : Int)).toNat = i by omega, List.getD_eq_getElem?_getD, List.getElem?_eq_getElem h2]
    rfl
theorem at_idx {l : List Int} {x : Int} (h : x ∈ l) : at_ l (l.idxOf x : Int) = x := by
  have hi : l.idxOf x < l.length := List.idxOf_lt_length_iff.mpr h
  unfold at_
  rw [show ((l.idxOf x : Nat) : Int).toNat = l.idxOf x by omega, List.getD_eq_getElem?_getD, List.getElem?_eq_getElem hi]
  exact List.getElem_idxOf hi
theorem at_mono {l : List Int} (hl : l.Pairwise fun a b => a < b) {i j : Int} (h0 : 0 ≤ i) (hij : i < j) (hj : j < l.length) : at_ l i < at_ l j := by
  have h1 := List.pairwise_iff_getElem.mp hl i.toNat j.toNat (by omega) (by omega) (by omega)
  unfold at_
  rw [List.getD_eq_getElem?_getD, List.getD_eq_getElem?_getD, List.getElem?_eq_getElem (by omega), List.getElem?_eq_getElem (by omega)]
  exact h1
theorem at_mem {l : List Int} {i : Int} (h0 : 0 ≤ i) (hi : i < l.length) : at_ l i ∈ l := by
  unfold at_
  rw [List.getD_eq_getElem?_getD, List.getElem?_eq_getElem (by omega)]
  exact List.getElem_mem _
theorem idx_at {l : List Int} (hn : l.Nodup) {i : Int} (h0 : 0 ≤ i) (hi : i < l.length) : (l.idxOf (at_ l i) : Int) = i := by
  have hx : l.idxOf (at_ l i) < l.length := List.idxOf_lt_length_iff.mpr (at_mem h0 hi)
  have hi2 : i.toNat < l.length := by omega
  have e1 : l[l.idxOf (at_ l i)] = at_ l i := List.getElem_idxOf hx
  have e2 : at_ l i = l[i.toNat] := by
    unfold at_
    rw [List.getD_eq_getElem?_getD, List.getElem?_eq_getElem hi2]
    rfl
  have := (List.getElem_inj hn).mp (e1.trans e2)
  omega
section
variable {T : Tb} {l : List Int}
theorem part_mem (hT : T.Ok) (hl : l.Pairwise fun a b => a < b) {i j : Int} (h0 : 0 ≤ i) (hij : i < j) (hj : j < l.length) : (i, j) ∈ (T.part l).2 ↔ (at_ l i, at_ l j) ∈ T.2 := by
  have hn : l.Nodup := hl.imp fun {a b} h e => by omega
  unfold Tb.part
  rw [List.mem_map]
  constructor
  · rintro ⟨c, hc, e⟩
    obtain ⟨hc, hb⟩ := List.mem_filter.mp hc
    have hb := Bool.and_eq_true_iff.mp (show (decide (c.1 ∈ l) && decide (c.2 ∈ l)) = true from hb)
    rw [Prod.mk.injEq] at e
    rw [← e.1, ← e.2, at_idx (of_decide_eq_true hb.1), at_idx (of_decide_eq_true hb.2)]
    exact hc
  · intro h
    refine ⟨_, List.mem_filter.mpr ⟨h, ?_⟩, ?_⟩
    · unfold inBoth
      rw [decide_eq_true (at_mem h0 (by omega)), decide_eq_true (at_mem (by omega) hj)]
      rfl
    · rw [idx_at hn h0 (by omega), idx_at hn (by omega) hj]
theorem Tb.Ok.part (hT : T.Ok) (hs : l.Sublist (rngI 0 T.1)) : (T.part l).Ok := by
  have hl := (rngI_lt 0 T.1).sublist hs
  have hn : l.Nodup := hl.imp fun {a b} h e => by omega
  have hlen := hs.length_le
  rw [rngI_length] at hlen
  have h6 := hT.n6
  refine ⟨by show (0 : Int) ≤ l.length; omega, by show (l.length : Int) ≤ 6; omega, ?_, fun c hc => ?_⟩
  · unfold Tb.part
    refine List.pairwise_map.mpr ((hT.nd.filter _).imp_of_mem fun {c d} hc hd h e => h ?_)
    have hc := Bool.and_eq_true_iff.mp (show (decide (c.1 ∈ l) && decide (c.2 ∈ l)) = true from (List.mem_filter.mp hc).2)
    have hd := Bool.and_eq_true_iff.mp (show (decide (d.1 ∈ l) && decide (d.2 ∈ l)) = true from (List.mem_filter.mp hd).2)
    rw [Prod.mk.injEq] at e
    have e1 := congrArg (at_ l) e.1
    have e2 := congrArg (at_ l) e.2
    rw [at_idx (of_decide_eq_true hc.1), at_idx (of_decide_eq_true hd.1)] at e1
    rw [at_idx (of_decide_eq_true hc.2), at_idx (of_decide_eq_true hd.2)] at e2
    exact Prod.ext e1 e2
  · obtain ⟨d, hd, rfl⟩ := List.mem_map.mp hc
    obtain ⟨hd, hb⟩ := List.mem_filter.mp hd
    have hb := Bool.and_eq_true_iff.mp (show (decide (d.1 ∈ l) && decide (d.2 ∈ l)) = true from hb)
    have hm := hT.mem d hd
    have h1 := List.idxOf_lt_length_iff.mpr (of_decide_eq_true hb.1)
    have h2 := List.idxOf_lt_length_iff.mpr (of_decide_eq_true hb.2)
    show (0 : Int) ≤ (l.idxOf d.1 : Int) ∧ (l.idxOf d.1 : Int) < (l.idxOf d.2 : Int) ∧ (l.idxOf d.2 : Int) < (l.length : Int)
    refine ⟨by omega, ?_, by omega⟩
    rcases Int.lt_trichotomy (l.idxOf d.1 : Int) (l.idxOf d.2 : Int) with h | h | h
    · exact h
    · have := congrArg (at_ l) h
      rw [at_idx (of_decide_eq_true hb.1), at_idx (of_decide_eq_true hb.2)] at this
      omega
    · have := at_mono hl (by omega) h (by omega)
      rw [at_idx (of_decide_eq_true hb.1), at_idx (of_decide_eq_true hb.2)] at this
      omega
theorem part_kn (hT : T.Ok) (hl : l.Pairwise fun a b => a < b) {i j : Int} (hi : 0 ≤ i ∧ i < l.length) (hj : 0 ≤ j ∧ j < l.length) (hne : i ≠ j) : (T.part l).kn i j = T.kn (at_ l i) (at_ l j) := by
  have key : ∀ {i j : Int}, 0 ≤ i → i < j → j < l.length → (T.part l).kn i j = T.kn (at_ l i) (at_ l j) := fun {i j} h0 hij hj => by
    rw [kn_lt hij, kn_lt (at_mono hl h0 hij hj), decide_eq_decide]
    exact part_mem hT hl h0 hij hj
  rcases Int.lt_or_gt_of_ne hne with h | h
  · exact key hi.1 h hj.2
  · rw [kn_symm, kn_symm T]
    exact key hj.1 h hi.2
theorem part_lack (hT : T.Ok) (hs : l.Sublist (rngI 0 T.1)) : (T.part l).lack ≤ T.lack := by
  have hl := (rngI_lt 0 T.1).sublist hs
  have hn : l.Nodup := hl.imp fun {a b} h e => by omega
  refine IsLack.part (V := T.V) (U := rngI 0 l.length) (g := at_ l) (A := T.kn) (A' := (T.part l).kn) (by rw [rng_at]; exact hs) (fun u hu v hv e => ?_) (fun u hu v hv h => part_kn hT hl (mem_rngI.mp hu) (mem_rngI.mp hv) h) (is_lack hT) (is_lack (hT.part hs))
  have hu := mem_rngI.mp hu
  have hv := mem_rngI.mp hv
  rw [← idx_at hn hu.1 hu.2, ← idx_at hn hv.1 hv.2, e]
end
end
end P92

set_option Elab.async false
set_option linter.all false
set_option maxRecDepth 100000
set_option maxHeartbeats 1000000
namespace P92
open PySem PySem.Spec PyProof.Rows L2 PW Cod GT
section
local macro_rules | `(tactic| array_get_dec) => `(tactic| try simp only [W.need_len, W.need_len1, W.need_len2, W.need_len3, W.need_len4, W.need_sz0, W.need_sz1, W.need_sz2, W.need_sz3, W.need_sz4, W.need_sz5, szT, szT1, szT2, szT3, szT4, szT5, szT6, szT7, true_and, forW_nil, forW_cons, Bool.true_and, Bool.not_true, Bool.not_false, wipeE, W.bind_pure, W.need_T, D.asLst_lst, seqW, W.run_bind, W.run_pure, W.run_need, W.run_fail, W.run_fa, W.run_ite, W.pure_bind, W.fail_bind, W.bind_assoc, W.ite_bind, W.some?_some, getV_zero, getV_succ, startE, List.length_cons, List.length_nil, List.map_cons, List.map_nil, List.cons_append, List.nil_append, List.replicate, List.set_cons_zero, List.set_cons_succ, D.eq_int, D.ne_int, D.add_int, D.add_lst, D.add_tup, D.sub_int, D.mul_int, D.mul_0, D.mul_1, D.mul_one, D.fdiv_int, D.mod_int, D.lt_int, D.le_int, D.gt_int, D.ge_int, D.tr_bl, D.truth_bl, D.int1_int, D.int1_bl, D.asInt_int, D.slice_lst, D.slice_tup, D.ix_lst, D.ix_tup, D.bagI_bag, D.bagC_bag, D.bagSet_bag, D.bagAdd_int, D.isBag_bag, D.len_lst, D.len_tup, D.min_int, D.max_int, D.abs_int, D.neg_int, D.tuple_lst, D.tuple_tup, D.iter_lst, D.iter_tup, D.items_lst, D.items_tup, D.rev_lst, atI_zero, atI_one, atI_two, atI_three, atI_four, atI_neg1, setAll_nil, setAll_cons, Tgt.set_nm, Tgt.set_tp, fin_rt, fin_nx, W.ite_and, W.ite_or, W.ite_andD, W.ite_orD, Bool.false_eq_true, if_true, if_false])
theorem wneq : wSq ≠ wFar ∧ wSq ≠ wFive ∧ wFar ≠ wFive := by
  refine ⟨?_, ?_, ?_⟩ <;> intro e <;> exact absurd (congrArg OkS.s e) (by decide +kernel)
theorem filt_map {α β : Type} (p : α × β → Bool) (w : α) (xs : List β) (b : Bool) (h : ∀ x, p (w, x) = b) : ((xs.map fun x => (w, x)).filter p).map (·.2) = if b = true then xs else [] := by
  induction xs with
  | nil => cases b <;> rfl
  | cons x xs ih =>
    rw [List.map_cons, List.filter_cons, h]
    cases b with
    | true => rw [if_pos rfl, List.map_cons, ih]; rfl
    | false => rw [if_neg (by simp), ih]; rfl
theorem bars_sq (T : Tb) : (T.bars.filter fun p => decide (p.1 = wSq)).map (·.2) = T.lrings 3 := by
  unfold Tb.bars
  rw [List.filter_append, List.filter_append, List.map_append, List.map_append, filt_map _ wSq _ true fun _ => by simp, filt_map _ wFar _ false fun _ => decide_eq_false fun e => wneq.1 e.symm, filt_map _ wFive _ false fun _ => decide_eq_false fun e => wneq.2.1 e.symm]
  simp
theorem bars_five (T : Tb) : (T.bars.filter fun p => decide (p.1 = wFive)).map (·.2) = T.lrings 4 := by
  unfold Tb.bars
  rw [List.filter_append, List.filter_append, List.map_append, List.map_append, filt_map _ wSq _ false fun _ => decide_eq_false fun e => wneq.2.1 e, filt_map _ wFar _ false fun _ => decide_eq_false fun e => wneq.2.2 e, filt_map _ wFive _ true fun _ => by simp]
  simp
theorem enc_nodes_list {α : Type} [DecidableEq α] [Cod α] (xs : List α) (k : Nat) (h : ∀ x ∈ xs, (enc x : D).nodes ≤ k) : (enc xs : D).nodes ≤ xs.length * k + 1 := by
  rw [enc_list, D.nodes]
  have := D.nodesL_map xs enc k h
  omega
theorem row_nodes (r : List Int) : (enc r : D).nodes ≤ r.length + 1 := by
  have := enc_nodes_list r 1 fun x _ => Nat.le_refl _
  omega
theorem nodes_int (i : Int) : (D.int i).nodes = 1 := rfl
theorem nodes_bl (i : Bool) : (D.bl i).nodes = 1 := rfl
theorem T_alk (T : Tb) : T.e.alk = true := Alk.alk (α := Int × List (Int × Int)) T
theorem T_nodes {T : Tb} (hT : T.Ok) : T.e.nodes ≤ 200 := by
  have h1 := k_len T hT
  have h2 := enc_nodes_list T.2 3 fun x _ => by rw [enc_pair, enc_int, enc_int]; simp [D.nodes, D.nodesL]
  show (D.tup [.int T.1, enc T.2]).nodes ≤ 200
  simp only [D.nodes, D.nodesL]
  omega
theorem every_nodes {T : Tb} (hT : T.Ok) : (enc T.every : D).nodes ≤ 1000 := by
  have h1 := every_len T hT
  have h2 := enc_nodes_list T.every 7 fun l hl => by
    have h := (every_mem.mp hl).1.length_le
    have h6 := hT.n6
    rw [rngI_length] at h
    have := row_nodes l
    omega
  omega
theorem lrings_nodes {T : Tb} (hT : T.Ok) {k : Nat} (hk : k ≤ 4) : (enc (T.lrings k) : D).nodes ≤ 46657 := by
  have h1 := (rows_len T hT k).1
  have h2 : 6 ^ (k + 1) ≤ 6 ^ 5 := Nat.pow_le_pow_right (by decide) (by omega)
  have h3 : (T.lrings k).length ≤ (T.rows k).length := by
    unfold Tb.lrings
    rw [csort_length, lrows_eq]
    exact Nat.le_trans (List.length_filter_le _ _) (List.length_filter_le _ _)
  have h4 := enc_nodes_list (T.lrings k) 6 fun r hr => by
    have hr : r ∈ _ := mem_csort.mp (show r ∈ csort _ from hr)
    have := ((rows_len T hT k).2 r (lrow_mem (List.mem_filter.mp hr).1)).1
    have := row_nodes r
    omega
  have h5 : (6 : Nat) ^ 5 = 7776 := by decide
  omega
theorem lots_ne {xs : List Int} (h : xs.Nodup) : (lots0 xs).Nodup := by
  induction xs using snoc_ind with
  | h0 => simp [lots0]
  | hs xs x ih =>
    obtain ⟨h1, h2, h3⟩ := List.nodup_append.mp h
    rw [lots0_snoc]
    refine List.nodup_append.mpr ⟨ih h1, ?_, fun a ha b hb e => ?_⟩
    · refine List.pairwise_map.mpr ((ih h1).imp fun {a b} q e => q ?_)
      exact (List.append_inj' e rfl).1
    · subst e
      obtain ⟨c, _, rfl⟩ := List.mem_map.mp hb
      have := ((mem_lots0 xs _).mp ha).subset (show x ∈ c ++ [x] by simp)
      exact h3 x this x (by simp) rfl
theorem lots_drop {n : Int} : ∀ l ∈ (csort (lots0 (rngI 0 n))).drop 1, l ≠ [] := by
  intro l hl e
  subst e
  have hn : (csort (lots0 (rngI 0 n))).Nodup := (csort_perm _).nodup_iff.mpr (lots_ne (rngI_nodup 0 n))
  have hp := csort_pairwise (lots0 (rngI 0 n))
  cases hc : csort (lots0 (rngI 0 n)) with
  | nil => rw [hc] at hl; cases hl
  | cons x xs =>
    rw [hc] at hl hn hp
    have hl : [] ∈ xs := by simpa using hl
    have h1 := (List.pairwise_cons.mp hp).1 [] hl
    have h2 : x = [] := cle_anti h1 (cle_nil x)
    exact (List.nodup_cons.mp hn).1 (h2 ▸ hl)
theorem law_true : (F_law [.scr]).run fun d => d = .bl true := by
  unfold F_law defW B_law
  array_get_dec
  rw [show F__law_bag [.scr] = W.pure .bag from rfl]
  array_get_dec
  rw [D.rng1_int ⟨by decide, by decide⟩]
  array_get_dec
  refine for_run (e := enc) (fun done ρ => ∃ o2 o3 o4 o5 o6 o7 o8 o9 o10 o11 o12 o13 o14 o15 o16 o17 o18 o19 o20 : Option D, ρ = [some .scr, some .bag, o2, o3, o4, o5, o6, o7, o8, o9, o10, o11, o12, o13, o14, o15, o16, o17, o18, o19, o20]) (rngI 0 5) _ _ ⟨_, _, _, _, _, _, _, _, _, _, _, _, _, _, _, _, _, _, _, rfl⟩ (fun done x rest ρ hx ⟨o2, o3, o4, o5, o6, o7, o8, o9, o10, o11, o12, o13, o14, o15, o16, o17, o18, o19, o20, hρ⟩ => by
    subst hρ
    clear hx
    array_get_dec
    refine law_table fun T hT h1 => ?_
    have h0 := hT.n0
    have h6 := hT.n6
    have hev := every_iff hT
    have hbr := bars_iff hT
    have hbt := better_iff hT
    have hpt := top_parts hT
    have hl2 := lack_even hT
    array_get_dec
    rw [show T.e.ix (.int 0) = W.pure (.int T.1) from rfl]
    array_get_dec
    rw [law_partings T hT, law_bars T hT, a_parting T hT]
    array_get_dec
    rw [show (csort (lots0 (rngI 0 T.1))).filter T.parts = T.every from rfl]
    rw [lc_nm (cpl T.1) enc (fun c => !decide (c ∈ T.2)) enc (by
        array_get_dec
        rw [law_couples _ h0 h6]
        array_get_dec) rfl (fun c hc => by
        array_get_dec
        rw [show T.e.ix (.int 1) = W.pure (.tup (T.2.map enc)) from rfl]
        array_get_dec
        rw [D.notIn_tup]
        array_get_dec) (fun c _ _ => rfl)]
    array_get_dec
    rw [show D.tup [.int T.1, .tup (((cpl T.1).filter fun c => !decide (c ∈ T.2)).map enc)] = T.turn.e from rfl]
    rw [partings T hT, partings_many T hT, lack T hT, better T hT, fewest_wrong T hT, turned T hT]
    array_get_dec
    rw [show (D.tup []) = enc ([] : List (Int × Int)) from rfl, D.eq_enc]
    rw [show (D.lst []) = D.lst (([] : List (List Int)).map enc) from rfl, D.eq_lst, D.ne_lst]
    have hb : ∃ b, T.parts T.top = b ∧ decide (T.every = []) = !b ∧ decide (T.better = []) = b ∧ decide (T.bars = []) = b ∧ decide (T.lack = 0) = b ∧ decide (T.lack / 2 = 0) = b := by
      refine ⟨decide (T.lack = 0), ?_, ?_, ?_, ?_, rfl, ?_⟩
      · rw [Bool.eq_iff_iff, decide_eq_true_eq]; exact hpt
      · rw [← decide_not, decide_eq_decide]; exact hev
      · rw [decide_eq_decide]; exact hbt
      · rw [decide_eq_decide]; exact hbr
      · rw [decide_eq_decide]; omega
    have htm : T.parts T.top = true → T.top ∈ T.every := fun h => every_mem.mpr ⟨(mem_lots0 _ _).mp (top_lot T), h⟩
    obtain ⟨b, e1, e2, e3, e4, e5, e6⟩ := hb
    rw [e1] at htm
    rw [e1, e2, e3, e5, e6]
    have en1 := every_nodes hT
    have en2 := T_nodes hT.turn
    have en3 := lrings_nodes hT (k := 3) (by decide)
    have en4 := lrings_nodes hT (k := 4) (by decide)
    have eis : (if b = true then enc T.top else D.non).is D.non = W.pure (.bl (!b)) := by cases b <;> rfl
    have eisn : (if b = true then enc T.top else D.non).isnot D.non = W.pure (.bl b) := by cases b <;> rfl
    rw [eis, eisn]
    array_get_dec
    rw [List.length_map, show D.tup (T.every.map enc) = enc T.every from rfl]
    simp only [Bool.not_not]
    refine law_alike _ ?_ ?_ ?_
    · simp only [D.alkL, D.alk, Alk.alk, T_alk, Bool.and_true]
    · simp only [D.nodes, D.nodesL, nodes_int, nodes_bl]
      omega
    array_get_dec
    rw [show (D.lst (T.bars.map enc)).eq (.lst []) = W.pure (.bl b) from by
      rw [show (D.lst []) = D.lst (([] : List (OkS × List Int)).map enc) from rfl, D.eq_lst, e4]]
    array_get_dec
    rw [D.ne_bb, show (b != b) = false from by cases b <;> rfl]
    array_get_dec
    have hother : b = true → (((enc T.top).notIn (D.lst (T.every.map enc)) = W.pure (.bl false)) ∧ F__law_others [T.e, enc T.top] = W.pure (enc (T.oth T.top)) ∧ F_is_parting [T.turn.e, enc (T.oth T.top)] = W.pure (.bl true)) := fun h => by
      refine ⟨?_, law_others T hT _, ?_⟩
      · rw [D.notIn_lst, decide_eq_true (htm h)]; rfl
      · rw [is_parting T.turn hT.turn _ (Nat.le_trans (oth_len T hT _) (by decide)), turn_parts hT top_V (e1.trans h), show T.turn.isLot (T.oth T.top) = T.isLot (T.oth T.top) from rfl, oth_isLot]
        rfl
    have skip : ∀ R : Prop, R → (if b = true then ((if b = true then enc T.top else D.non).notIn (D.lst (List.map enc T.every))).run fun a => a.tr.run fun a => if a = true then D.bl false = D.bl true else (F__law_others [T.e, if b = true then enc T.top else D.non]).run fun a => (F_is_parting [T.turn.e, a]).run fun a => (a.isnot (D.bl true)).run fun a => a.tr.run fun a => if a = true then D.bl false = D.bl true else R else R) := fun R r => by
      cases hbb : b with
      | false => rw [if_neg (by simp)]; exact r
      | true =>
        obtain ⟨q1, q2, q3⟩ := hother hbb
        rw [if_pos rfl, if_pos rfl, q1]
        array_get_dec
        rw [q2]
        array_get_dec
        rw [q3]
        array_get_dec
        rw [show D.isnot (.bl true) (.bl true) = W.pure (.bl false) from rfl]
        array_get_dec
        exact r
    refine skip _ ?_
    clear skip hother
    rw [lc_map [wSq, wFive] enc (fun w => enc ((T.bars.filter fun p => decide (p.1 = w)).map (·.2))) rfl rfl (fun w _ => by
      rw [lc_tp T.bars (fun p => enc p.1) (fun p => enc p.2) (fun p => decide (p.1 = w)) (fun p => enc p.2) rfl rfl (fun p _ => by
        array_get_dec
        rw [D.eq_enc]
        array_get_dec) (fun p _ _ => rfl)]
      array_get_dec
      rw [enc_list, List.map_map]
      rfl)]
    array_get_dec
    rw [bars_sq, bars_five, squares T hT, fives T hT, half_lack T hT]
    array_get_dec
    refine law_alike _ ?_ ?_ ?_
    · simp only [D.alkL, D.alk, Alk.alk, Bool.and_true]
    · simp only [D.nodes, D.nodesL, nodes_int, nodes_bl]
      omega
    array_get_dec
    rw [lack T.turn hT.turn, turn_lack hT]
    array_get_dec
    simp only [decide_true, Bool.not_true, Bool.false_eq_true, if_false]
    refine ⟨.inl ⟨by decide, by decide⟩, ?_⟩
    rw [law_counts T hT]
    array_get_dec
    have hcl := counts_len T hT
    rw [lcounts_eq hT, law_lack T.counts (by omega), show lackOf (slist T.counts) = T.lack from rfl, hl2]
    array_get_dec
    simp only [decide_true, Bool.not_true, Bool.false_eq_true, if_false]
    obtain ⟨L, hL, hC⟩ := changes T hT
    rw [hL]
    array_get_dec
    rw [show (enc L : D).iter = W.pure (L.map enc) from rfl]
    array_get_dec
    refine for_run (e := enc) (fun done ρ => ∃ o6 o7 o9 o10 o11 o12 o13 o14 o15 o16 o17 o18 o19 o20 : Option D, ρ = [some .scr, some .bag, some (enc x), some T.e, some (.int T.1), some (.lst (T.every.map enc)), o6, o7, some T.turn.e, o9, o10, o11, o12, o13, o14, o15, o16, o17, o18, o19, o20]) L _ _ ⟨_, _, _, _, _, _, _, _, _, _, _, _, _, _, rfl⟩ (fun done y rest ρ hx ⟨o6, o7, o9, o10, o11, o12, o13, o14, o15, o16, o17, o18, o19, o20, hρ⟩ => by
      subst hρ
      obtain ⟨a, b', c, d, rfl, hch⟩ := hC y (by rw [← hx]; simp)
      have hT' := hT.bych hch
      array_get_dec
      rw [changed T hT a b' c d hch]
      array_get_dec
      rw [law_counts _ hT', law_counts T hT, partings _ hT', lack _ hT', lack T hT, lcounts_eq hT', lcounts_eq hT, bych_counts hT hch, bych_lack hT hch, bych_every hT hch]
      array_get_dec
      rw [D.ne_lst, decide_eq_true (rfl : T.counts = T.counts)]
      array_get_dec
      rw [show D.tup (T.every.map enc) = enc T.every from rfl, D.ne_enc, decide_eq_true (rfl : T.every = T.every)]
      array_get_dec
      simp only [decide_true, Bool.not_true, Bool.false_eq_true, if_false]
      exact ⟨_, _, _, _, _, _, _, _, _, _, _, _, _, _, rfl⟩) (fun ρ ⟨o6, o7, o9, o10, o11, o12, o13, o14, o15, o16, o17, o18, o19, o20, hρ⟩ => ?_)
    subst hρ
    array_get_dec
    rw [is_still T hL, hL]
    array_get_dec
    rw [show (enc L).eq (enc ([] : List (Int × Int))) = W.pure (.bl (decide (L = []))) from D.eq_enc L ([] : List (List Int))]
    array_get_dec
    rw [D.ne_bb, bne_self_eq_false]
    array_get_dec
    rw [law_couples _ h0 h6]
    array_get_dec
    refine for_run (e := enc) (fun done ρ => ∃ o6 o7 o9 o10 o11 o12 o13 o14 o15 o16 o17 o18 o19 o20 : Option D, ρ = [some .scr, some .bag, some (enc x), some T.e, some (.int T.1), some (.lst (T.every.map enc)), o6, o7, some T.turn.e, o9, o10, o11, o12, o13, o14, o15, o16, o17, o18, o19, o20]) (cpl T.1) _ _ ⟨_, _, _, _, _, _, _, _, _, _, _, _, _, _, rfl⟩ (fun done y rest ρ hx ⟨o6, o7, o9, o10, o11, o12, o13, o14, o15, o16, o17, o18, o19, o20, hρ⟩ => by
      subst hρ
      have hy : y ∈ cpl T.1 := by rw [← hx]; simp
      have hin := in_cpl hy
      have hnear := tog_near hT hin
      have hnn := (tog_lack hT hin).nn
      rw [enc_pair]
      array_get_dec
      rw [enc_int, enc_int, lack_with T hT _ _ hin, lack T hT]
      array_get_dec
      rw [show D.tup [D.int (-2), D.int 0, D.int 2] = D.tup (([-2, 0, 2] : List Int).map enc) from rfl, ← enc_int ((T.tog y.1 y.2).lack - T.lack), D.notIn_tup, decide_eq_true (show (T.tog y.1 y.2).lack - T.lack ∈ ([-2, 0, 2] : List Int) by simp; omega)]
      array_get_dec
      rw [show (D.lst []) = D.lst (([] : List (List Int)).map enc) from rfl, D.ne_lst]
      array_get_dec
      rw [decide_eq_false (show ¬ (T.tog y.1 y.2).lack < 0 by omega)]
      array_get_dec
      split <;> exact ⟨_, _, _, _, _, _, _, _, _, _, _, _, _, _, rfl⟩) (fun ρ ⟨o6, o7, o9, o10, o11, o12, o13, o14, o15, o16, o17, o18, o19, o20, hρ⟩ => ?_)
    subst hρ
    array_get_dec
    rw [law_lots _ h0 h6]
    array_get_dec
    rw [show (1 : Int) = ((1 : Nat) : Int) from rfl, cutL_drop, ← List.map_drop]
    have hpos := lots0_len (rngI 0 T.1)
    rw [rngI_length] at hpos
    have hpow : 2 ^ 1 ≤ 2 ^ (T.1 - 0).toNat := Nat.pow_le_pow_right (by decide) (by omega)
    have h64 := lots_64 (xs := rngI 0 T.1) (by rw [rngI_length]; omega)
    have hdl : ((csort (lots0 (rngI 0 T.1))).drop 1).length = (lots0 (rngI 0 T.1)).length - 1 := by rw [List.length_drop, csort_length]
    refine some_run (fun e => ?_) (by rw [List.length_map]; omega) fun d hd => ?_
    · have := congrArg List.length e
      rw [List.length_map, List.length_nil] at this
      omega
    obtain ⟨l, hl, rfl⟩ := List.mem_map.mp hd
    have hne := lots_drop l hl
    have hs : l.Sublist (rngI 0 T.1) := (mem_lots0 _ _).mp (mem_csort.mp (List.mem_of_mem_drop hl))
    have hpw := (rngI_lt 0 T.1).sublist hs
    have hll := hs.length_le
    rw [rngI_length] at hll
    have hlot : T.isLot l = true := by
      unfold Tb.isLot
      rw [decide_eq_true hpw, Bool.true_and, List.all_eq_true]
      intro v hv
      have := mem_rngI.mp (hs.subset hv)
      simp [this.1, this.2]
    have hP := hT.part hs
    have hpl := part_lack hT hs
    rw [part_of T l hlot hne (by omega), law_part_of T l (hpw.imp fun {a b} h e => by omega) (by omega)]
    array_get_dec
    rw [show (T.part l).e.ne (T.part l).e = W.pure (.bl (!decide (T.part l = T.part l))) from D.ne_enc (α := Int × List (Int × Int)) (T.part l) (T.part l), decide_eq_true (rfl : T.part l = T.part l)]
    array_get_dec
    rw [show (D.lst []) = D.lst (([] : List (List Int)).map enc) from rfl, D.ne_lst]
    array_get_dec
    rw [a_parting _ hP, lack _ hP, lack T hT]
    array_get_dec
    rw [decide_eq_false (show ¬ T.lack < (T.part l).lack by omega)]
    array_get_dec
    split
    · rename_i q
      have hne2 : T.every ≠ [] := by simpa using q
      have hl0 : T.lack = 0 := Classical.byContradiction fun z => hne2 (hev.mpr z)
      have hp0 : (T.part l).lack = 0 := by
        have := (is_lack hP).nn
        omega
      rw [if_pos ((top_parts hP).mpr hp0), show D.is (enc (T.part l).top) .non = W.pure (.bl false) from rfl]
      array_get_dec
      exact ⟨_, _, _, _, _, _, _, _, _, _, _, _, _, _, _, _, _, _, _, rfl⟩
    · exact ⟨_, _, _, _, _, _, _, _, _, _, _, _, _, _, _, _, _, _, _, rfl⟩) (fun ρ ⟨o2, o3, o4, o5, o6, o7, o8, o9, o10, o11, o12, o13, o14, o15, o16, o17, o18, o19, o20, hρ⟩ => by
    subst hρ
    array_get_dec)
end
end P92

set_option Elab.async false
set_option linter.all false
set_option maxRecDepth 100000
set_option maxHeartbeats 0
namespace P92
open PySem PySem.Spec PyProof.Rows L2 PW
theorem kept {K : PySem.W.Frag} {mg : Str → Option Value} {Φ Ψ : List D → W D} (h : ∀ (ds : List D) (Q : D → Prop), (Φ ds).run Q → (Ψ ds).run Q) (vs : List V) (H : Hp) (Q : VK) (E : XK) : spW K mg Φ vs H Q E → spW K mg Ψ vs H Q E
  | ⟨z, ds, ok, r, k⟩ => ⟨z, ds, ok, r, h ds _ k⟩
section
variable {P : Program} {w : World} {K : PySem.W.Frag} {mg : Str → Option Value} {base h : Heap}
theorem free_all (X : K.In h) (G : h.Ns mainGlobals mg) (c : He.SaysD fa fn K) : ∀ x ∈ free, mg x = none := by
  intro x hx
  unfold free at hx
  simp only [List.mem_cons, List.not_mem_nil, or_false] at hx
  rcases hx with rfl | rfl | rfl | rfl | rfl | rfl | rfl | rfl | rfl | rfl | rfl | rfl | rfl | rfl | rfl | rfl | rfl | rfl | rfl
  · exact He.free_ok X G (c.fact 78 (f := .free "isinstance") rfl)
  · exact He.free_ok X G (c.fact 79 (f := .free "all") rfl)
  · exact He.free_ok X G (c.fact 80 (f := .free "zip") rfl)
  · exact He.free_ok X G (c.fact 81 (f := .free "range") rfl)
  · exact He.free_ok X G (c.fact 82 (f := .free "min") rfl)
  · exact He.free_ok X G (c.fact 83 (f := .free "max") rfl)
  · exact He.free_ok X G (c.fact 84 (f := .free "len") rfl)
  · exact He.free_ok X G (c.fact 85 (f := .free "tuple") rfl)
  · exact He.free_ok X G (c.fact 86 (f := .free "list") rfl)
  · exact He.free_ok X G (c.fact 87 (f := .free "sorted") rfl)
  · exact He.free_ok X G (c.fact 88 (f := .free "enumerate") rfl)
  · exact He.free_ok X G (c.fact 89 (f := .free "sum") rfl)
  · exact He.free_ok X G (c.fact 90 (f := .free "any") rfl)
  · exact He.free_ok X G (c.fact 91 (f := .free "int") rfl)
  · exact He.free_ok X G (c.fact 92 (f := .free "abs") rfl)
  · exact He.free_ok X G (c.fact 93 (f := .free "set") rfl)
  · exact He.free_ok X G (c.fact 94 (f := .free "dict") rfl)
  · exact He.free_ok X G (c.fact 95 (f := .free "str") rfl)
  · exact He.free_ok X G (c.fact 96 (f := .free "bool") rfl)
theorem at__law_bag (X : K.In h) (G : h.Ns mainGlobals mg) (c : He.SaysD fa fn K) : FnAt P w K mg base 1 "_law_bag" F__law_bag := by
  obtain ⟨fd, F⟩ := c.def_ 0 (d := dd "_law_bag" 75) rfl
  have m : Mod0 M__law_bag P w K mg base := ⟨tab_nil, free_all X G c, fun _ _ h => absurd h List.not_mem_nil⟩
  have r := fnr_def (ps := ["script"]) (N := ["script", "cell"]) (mt := []) F m B__law_bag.2 (by kernel_rfl) (fun _ _ _ _ _ _ us hl => match us, hl with | [_], _ => rfl) (by decide) (by decide)
  exact ⟨_, He.glo_ok X G (c.fact 0 (f := .glo "_law_bag") rfl), F.kp, (r.imp (kept bag_ref)).mono (by decide)⟩
theorem at__law_take (X : K.In h) (G : h.Ns mainGlobals mg) (c : He.SaysD fa fn K) : FnAt P w K mg base 1 "_law_take" F__law_take := by
  obtain ⟨fd, F⟩ := c.def_ 1 (d := dd "_law_take" 76) rfl
  have m : Mod0 M__law_take P w K mg base := ⟨tab_nil, free_all X G c, fun _ _ h => absurd h List.not_mem_nil⟩
  have r := fnr_def (ps := ["bag", "many"]) (N := ["bag", "many", "cell", "stirred", "value", "begin", "second"]) (mt := []) F m B__law_take.2 (by kernel_rfl) (fun _ _ _ _ _ _ us hl => match us, hl with | [_, _], _ => rfl) (by decide) (by decide)
  exact ⟨_, He.glo_ok X G (c.fact 1 (f := .glo "_law_take") rfl), F.kp, (r.imp (kept take_ref)).mono (by decide)⟩
theorem at__law_some (X : K.In h) (G : h.Ns mainGlobals mg) (c : He.SaysD fa fn K) : FnAt P w K mg base 2 "_law_some" F__law_some := by
  obtain ⟨fd, F⟩ := c.def_ 2 (d := dd "_law_some" 77) rfl
  have m : Mod0 M__law_some P w K mg base := ⟨(tab_cons (at__law_take X G c) tab_nil), free_all X G c, fun _ _ h => absurd h List.not_mem_nil⟩
  have r := fnr_def (ps := ["bag", "things"]) (N := ["bag", "things"]) (mt := []) F m B__law_some.2 (by kernel_rfl) (fun _ _ _ _ _ _ us hl => match us, hl with | [_, _], _ => rfl) (by decide) (by decide)
  exact ⟨_, He.glo_ok X G (c.fact 2 (f := .glo "_law_some") rfl), F.kp, r⟩
theorem at__law_lots (X : K.In h) (G : h.Ns mainGlobals mg) (c : He.SaysD fa fn K) : FnAt P w K mg base 1 "_law_lots" F__law_lots := by
  obtain ⟨fd, F⟩ := c.def_ 3 (d := dd "_law_lots" 81) rfl
  have m : Mod0 M__law_lots P w K mg base := ⟨tab_nil, free_all X G c, fun _ _ h => absurd h List.not_mem_nil⟩
  have r := fnr_def (ps := ["many"]) (N := ["many", "found", "one", "lot"]) (mt := []) F m B__law_lots.2 (by kernel_rfl) (fun _ _ _ _ _ _ us hl => match us, hl with | [_], _ => rfl) (by decide) (by decide)
  exact ⟨_, He.glo_ok X G (c.fact 3 (f := .glo "_law_lots") rfl), F.kp, r⟩
theorem at__law_couples (X : K.In h) (G : h.Ns mainGlobals mg) (c : He.SaysD fa fn K) : FnAt P w K mg base 1 "_law_couples" F__law_couples := by
  obtain ⟨fd, F⟩ := c.def_ 4 (d := dd "_law_couples" 80) rfl
  have m : Mod0 M__law_couples P w K mg base := ⟨tab_nil, free_all X G c, fun _ _ h => absurd h List.not_mem_nil⟩
  have r := fnr_def (ps := ["many"]) (N := ["many", "found", "a", "b"]) (mt := [1]) F m B__law_couples.2 (by kernel_rfl) (fun _ _ _ _ _ _ us hl => match us, hl with | [_], _ => rfl) (by decide) (by decide)
  exact ⟨_, He.glo_ok X G (c.fact 4 (f := .glo "_law_couples") rfl), F.kp, r⟩
theorem at__law_parted (X : K.In h) (G : h.Ns mainGlobals mg) (c : He.SaysD fa fn K) : FnAt P w K mg base 3 "_law_parted" F__law_parted := by
  obtain ⟨fd, F⟩ := c.def_ 5 (d := dd "_law_parted" 93) rfl
  have m : Mod0 M__law_parted P w K mg base := ⟨(tab_cons (at__law_take X G c) (tab_cons (at__law_some X G c) (tab_cons (at__law_lots X G c) (tab_cons (at__law_couples X G c) tab_nil)))), free_all X G c, fun _ _ h => absurd h List.not_mem_nil⟩
  have r := fnr_def (ps := ["bag", "most"]) (N := ["bag", "most", "many", "lot", "known", "a", "b", "both"]) (mt := []) F m B__law_parted.2 (by kernel_rfl) (fun _ _ _ _ _ _ us hl => match us, hl with | [_, _], _ => rfl) (by decide) (by decide)
  exact ⟨_, He.glo_ok X G (c.fact 5 (f := .glo "_law_parted") rfl), F.kp, r⟩
theorem at__law_table (X : K.In h) (G : h.Ns mainGlobals mg) (c : He.SaysD fa fn K) : FnAt P w K mg base 4 "_law_table" F__law_table := by
  obtain ⟨fd, F⟩ := c.def_ 6 (d := dd "_law_table" 94) rfl
  have m : Mod0 M__law_table P w K mg base := ⟨(tab_cons (at__law_parted X G c) (tab_cons (at__law_take X G c) (tab_cons (at__law_couples X G c) tab_nil))), free_all X G c, fun _ _ h => absurd h List.not_mem_nil⟩
  have r := fnr_def (ps := ["bag", "most"]) (N := ["bag", "most", "table", "lot", "way", "chance", "couple"]) (mt := []) F m B__law_table.2 (by kernel_rfl) (fun _ _ _ _ _ _ us hl => match us, hl with | [_, _], _ => rfl) (by decide) (by decide)
  exact ⟨_, He.glo_ok X G (c.fact 6 (f := .glo "_law_table") rfl), F.kp, r⟩
theorem at__law_empty (X : K.In h) (G : h.Ns mainGlobals mg) (c : He.SaysD fa fn K) : FnAt P w K mg base 1 "_law_empty" F__law_empty := by
  obtain ⟨fd, F⟩ := c.def_ 7 (d := dd "_law_empty" 83) rfl
  have m : Mod0 M__law_empty P w K mg base := ⟨tab_nil, free_all X G c, fun _ _ h => absurd h List.not_mem_nil⟩
  have r := fnr_def (ps := ["table", "lot"]) (N := ["table", "lot", "a", "b"]) (mt := []) F m B__law_empty.2 (by kernel_rfl) (fun _ _ _ _ _ _ us hl => match us, hl with | [_, _], _ => rfl) (by decide) (by decide)
  exact ⟨_, He.glo_ok X G (c.fact 7 (f := .glo "_law_empty") rfl), F.kp, r⟩
theorem at__law_others (X : K.In h) (G : h.Ns mainGlobals mg) (c : He.SaysD fa fn K) : FnAt P w K mg base 1 "_law_others" F__law_others := by
  obtain ⟨fd, F⟩ := c.def_ 8 (d := dd "_law_others" 84) rfl
  have m : Mod0 M__law_others P w K mg base := ⟨tab_nil, free_all X G c, fun _ _ h => absurd h List.not_mem_nil⟩
  have r := fnr_def (ps := ["table", "lot"]) (N := ["table", "lot", "one"]) (mt := []) F m B__law_others.2 (by kernel_rfl) (fun _ _ _ _ _ _ us hl => match us, hl with | [_, _], _ => rfl) (by decide) (by decide)
  exact ⟨_, He.glo_ok X G (c.fact 8 (f := .glo "_law_others") rfl), F.kp, r⟩
theorem at__law_full (X : K.In h) (G : h.Ns mainGlobals mg) (c : He.SaysD fa fn K) : FnAt P w K mg base 2 "_law_full" F__law_full := by
  obtain ⟨fd, F⟩ := c.def_ 9 (d := dd "_law_full" 82) rfl
  have m : Mod0 M__law_full P w K mg base := ⟨(tab_cons (at__law_couples X G c) tab_nil), free_all X G c, fun _ _ h => absurd h List.not_mem_nil⟩
  have r := fnr_def (ps := ["table", "lot"]) (N := ["table", "lot", "a", "b"]) (mt := []) F m B__law_full.2 (by kernel_rfl) (fun _ _ _ _ _ _ us hl => match us, hl with | [_, _], _ => rfl) (by decide) (by decide)
  exact ⟨_, He.glo_ok X G (c.fact 9 (f := .glo "_law_full") rfl), F.kp, r⟩
theorem at__law_parts (X : K.In h) (G : h.Ns mainGlobals mg) (c : He.SaysD fa fn K) : FnAt P w K mg base 3 "_law_parts" F__law_parts := by
  obtain ⟨fd, F⟩ := c.def_ 10 (d := dd "_law_parts" 85) rfl
  have m : Mod0 M__law_parts P w K mg base := ⟨(tab_cons (at__law_empty X G c) (tab_cons (at__law_others X G c) (tab_cons (at__law_full X G c) tab_nil))), free_all X G c, fun _ _ h => absurd h List.not_mem_nil⟩
  have r := fnr_def (ps := ["table", "lot"]) (N := ["table", "lot"]) (mt := []) F m B__law_parts.2 (by kernel_rfl) (fun _ _ _ _ _ _ us hl => match us, hl with | [_, _], _ => rfl) (by decide) (by decide)
  exact ⟨_, He.glo_ok X G (c.fact 10 (f := .glo "_law_parts") rfl), F.kp, r⟩
theorem at__law_partings (X : K.In h) (G : h.Ns mainGlobals mg) (c : He.SaysD fa fn K) : FnAt P w K mg base 4 "_law_partings" F__law_partings := by
  obtain ⟨fd, F⟩ := c.def_ 11 (d := dd "_law_partings" 86) rfl
  have m : Mod0 M__law_partings P w K mg base := ⟨(tab_cons (at__law_lots X G c) (tab_cons (at__law_parts X G c) tab_nil)), free_all X G c, fun _ _ h => absurd h List.not_mem_nil⟩
  have r := fnr_def (ps := ["table"]) (N := ["table", "lot"]) (mt := []) F m B__law_partings.2 (by kernel_rfl) (fun _ _ _ _ _ _ us hl => match us, hl with | [_], _ => rfl) (by decide) (by decide)
  exact ⟨_, He.glo_ok X G (c.fact 11 (f := .glo "_law_partings") rfl), F.kp, r⟩
theorem at__law_know (X : K.In h) (G : h.Ns mainGlobals mg) (c : He.SaysD fa fn K) : FnAt P w K mg base 1 "_law_know" F__law_know := by
  obtain ⟨fd, F⟩ := c.def_ 12 (d := dd "_law_know" 79) rfl
  have m : Mod0 M__law_know P w K mg base := ⟨tab_nil, free_all X G c, fun _ _ h => absurd h List.not_mem_nil⟩
  have r := fnr_def (ps := ["table", "a", "b"]) (N := ["table", "a", "b"]) (mt := []) F m B__law_know.2 (by kernel_rfl) (fun _ _ _ _ _ _ us hl => match us, hl with | [_, _, _], _ => rfl) (by decide) (by decide)
  exact ⟨_, He.glo_ok X G (c.fact 12 (f := .glo "_law_know") rfl), F.kp, r⟩
theorem at__law_rings (X : K.In h) (G : h.Ns mainGlobals mg) (c : He.SaysD fa fn K) : FnAt P w K mg base 2 "_law_rings" F__law_rings := by
  obtain ⟨fd, F⟩ := c.def_ 13 (d := dd "_law_rings" 89) rfl
  have m : Mod0 M__law_rings P w K mg base := ⟨(tab_cons (at__law_know X G c) tab_nil), free_all X G c, fun _ _ h => absurd h List.not_mem_nil⟩
  have r := fnr_def (ps := ["table", "many"]) (N := ["table", "many", "found", "step", "longer", "row", "good", "inside", "one", "a", "b"]) (mt := [4]) F m B__law_rings.2 (by kernel_rfl) (fun _ _ _ _ _ _ us hl => match us, hl with | [_, _], _ => rfl) (by decide) (by decide)
  exact ⟨_, He.glo_ok X G (c.fact 13 (f := .glo "_law_rings") rfl), F.kp, r⟩
theorem at__law_far (X : K.In h) (G : h.Ns mainGlobals mg) (c : He.SaysD fa fn K) : FnAt P w K mg base 2 "_law_far" F__law_far := by
  obtain ⟨fd, F⟩ := c.def_ 14 (d := dd "_law_far" 90) rfl
  have m : Mod0 M__law_far P w K mg base := ⟨(tab_cons (at__law_know X G c) tab_nil), free_all X G c, fun _ _ h => absurd h List.not_mem_nil⟩
  have r := fnr_def (ps := ["table"]) (N := ["table", "found", "a", "b", "c", "d", "apart", "x", "y"]) (mt := []) F m B__law_far.2 (by kernel_rfl) (fun _ _ _ _ _ _ us hl => match us, hl with | [_], _ => rfl) (by decide) (by decide)
  exact ⟨_, He.glo_ok X G (c.fact 14 (f := .glo "_law_far") rfl), F.kp, r⟩
theorem at__law_bars (X : K.In h) (G : h.Ns mainGlobals mg) (c : He.SaysD fa fn K) : FnAt P w K mg base 3 "_law_bars" F__law_bars := by
  obtain ⟨fd, F⟩ := c.def_ 15 (d := dd "_law_bars" 91) rfl
  have m : Mod0 M__law_bars P w K mg base := ⟨(tab_cons (at__law_rings X G c) (tab_cons (at__law_far X G c) tab_nil)), free_all X G c, fun _ _ h => absurd h List.not_mem_nil⟩
  have r := fnr_def (ps := ["table"]) (N := ["table", "found", "row"]) (mt := []) F m B__law_bars.2 (by kernel_rfl) (fun _ _ _ _ _ _ us hl => match us, hl with | [_], _ => rfl) (by decide) (by decide)
  exact ⟨_, He.glo_ok X G (c.fact 15 (f := .glo "_law_bars") rfl), F.kp, r⟩
theorem at_people (X : K.In h) (G : h.Ns mainGlobals mg) (c : He.SaysD fa fn K) : FnAt P w K mg base 1 "people" F_people := by
  obtain ⟨fd, F⟩ := c.def_ 16 (d := dd "people" 15) rfl
  have m : Mod0 M_people P w K mg base := ⟨tab_nil, free_all X G c, fun _ _ h => absurd h List.not_mem_nil⟩
  have r := fnr_def (ps := ["table"]) (N := ["table"]) (mt := []) F m B_people.2 (by kernel_rfl) (fun _ _ _ _ _ _ us hl => match us, hl with | [_], _ => rfl) (by decide) (by decide)
  exact ⟨_, He.glo_ok X G (c.fact 16 (f := .glo "people") rfl), F.kp, r⟩
theorem at_is_integer (X : K.In h) (G : h.Ns mainGlobals mg) (c : He.SaysD fa fn K) : FnAt P w K mg base 1 "is_integer" F_is_integer := by
  obtain ⟨fd, F⟩ := c.def_ 17 (d := dd "is_integer" 7) rfl
  have m : Mod0 M_is_integer P w K mg base := ⟨tab_nil, free_all X G c, fun _ _ h => absurd h List.not_mem_nil⟩
  have r := fnr_def (ps := ["thing"]) (N := ["thing"]) (mt := []) F m B_is_integer.2 (by kernel_rfl) (fun _ _ _ _ _ _ us hl => match us, hl with | [_], _ => rfl) (by decide) (by decide)
  exact ⟨_, He.glo_ok X G (c.fact 17 (f := .glo "is_integer") rfl), F.kp, r⟩
theorem at_is_within (X : K.In h) (G : h.Ns mainGlobals mg) (c : He.SaysD fa fn K) : FnAt P w K mg base 2 "is_within" F_is_within := by
  obtain ⟨fd, F⟩ := c.def_ 18 (d := dd "is_within" 8) rfl
  have m : Mod0 M_is_within P w K mg base := ⟨(tab_cons (at_is_integer X G c) tab_nil), free_all X G c, fun _ _ h => absurd h List.not_mem_nil⟩
  have r := fnr_def (ps := ["thing", "least", "most"]) (N := ["thing", "least", "most"]) (mt := []) F m B_is_within.2 (by kernel_rfl) (fun _ _ _ _ _ _ us hl => match us, hl with | [_, _, _], _ => rfl) (by decide) (by decide)
  exact ⟨_, He.glo_ok X G (c.fact 18 (f := .glo "is_within") rfl), F.kp, r⟩
theorem at_need_people (X : K.In h) (G : h.Ns mainGlobals mg) (c : He.SaysD fa fn K) : FnAt P w K mg base 3 "need_people" F_need_people := by
  obtain ⟨fd, F⟩ := c.def_ 19 (d := dd "need_people" 16) rfl
  have m : Mod0 M_need_people P w K mg base := ⟨(tab_cons (at_is_within X G c) tab_nil), free_all X G c, fun _ _ h => absurd h List.not_mem_nil⟩
  have r := fnr_defV (pa := "table") (pv := "some") (N := ["table", "some", "one"]) (mt := []) (nmax := 5) F m B_need_people.2 (by kernel_rfl) (by decide) (fun _ _ _ _ _ _ => bindV_of (fun _ => rfl) (fun _ _ => rfl) (fun _ _ _ => rfl) (fun _ _ _ _ => rfl) (fun _ _ _ _ _ => rfl) (fun _ _ _ _ _ _ => rfl)) (by decide) (by decide)
  exact ⟨_, He.glo_ok X G (c.fact 19 (f := .glo "need_people") rfl), F.kp, r⟩
theorem at_is_known (X : K.In h) (G : h.Ns mainGlobals mg) (c : He.SaysD fa fn K) : FnAt P w K mg base 1 "is_known" F_is_known := by
  obtain ⟨fd, F⟩ := c.def_ 20 (d := dd "is_known" 17) rfl
  have m : Mod0 M_is_known P w K mg base := ⟨tab_nil, free_all X G c, fun _ _ h => absurd h List.not_mem_nil⟩
  have r := fnr_def (ps := ["table", "a", "b"]) (N := ["table", "a", "b"]) (mt := []) F m B_is_known.2 (by kernel_rfl) (fun _ _ _ _ _ _ us hl => match us, hl with | [_, _, _], _ => rfl) (by decide) (by decide)
  exact ⟨_, He.glo_ok X G (c.fact 20 (f := .glo "is_known") rfl), F.kp, r⟩
theorem at_known_by (X : K.In h) (G : h.Ns mainGlobals mg) (c : He.SaysD fa fn K) : FnAt P w K mg base 4 "known_by" F_known_by := by
  obtain ⟨fd, F⟩ := c.def_ 21 (d := dd "known_by" 18) rfl
  have m : Mod0 M_known_by P w K mg base := ⟨(tab_cons (at_need_people X G c) (tab_cons (at_is_known X G c) tab_nil)), free_all X G c, fun _ _ h => absurd h List.not_mem_nil⟩
  have r := fnr_def (ps := ["table", "one"]) (N := ["table", "one", "other"]) (mt := []) F m B_known_by.2 (by kernel_rfl) (fun _ _ _ _ _ _ us hl => match us, hl with | [_, _], _ => rfl) (by decide) (by decide)
  exact ⟨_, He.glo_ok X G (c.fact 21 (f := .glo "known_by") rfl), F.kp, r⟩
theorem at_counts (X : K.In h) (G : h.Ns mainGlobals mg) (c : He.SaysD fa fn K) : FnAt P w K mg base 5 "counts" F_counts := by
  obtain ⟨fd, F⟩ := c.def_ 22 (d := dd "counts" 38) rfl
  have m : Mod0 M_counts P w K mg base := ⟨(tab_cons (at_people X G c) (tab_cons (at_known_by X G c) tab_nil)), free_all X G c, fun _ _ h => absurd h List.not_mem_nil⟩
  have r := fnr_def (ps := ["table"]) (N := ["table", "one"]) (mt := []) F m B_counts.2 (by kernel_rfl) (fun _ _ _ _ _ _ us hl => match us, hl with | [_], _ => rfl) (by decide) (by decide)
  exact ⟨_, He.glo_ok X G (c.fact 22 (f := .glo "counts") rfl), F.kp, r⟩
theorem at_order_of (X : K.In h) (G : h.Ns mainGlobals mg) (c : He.SaysD fa fn K) : FnAt P w K mg base 6 "order_of" F_order_of := by
  obtain ⟨fd, F⟩ := c.def_ 23 (d := dd "order_of" 54) rfl
  have m : Mod0 M_order_of P w K mg base := ⟨(tab_cons (at_counts X G c) tab_nil), free_all X G c, fun _ _ h => absurd h List.not_mem_nil⟩
  have r := fnr_def (ps := ["table"]) (N := ["table", "told", "minus", "one", "many"]) (mt := []) F m B_order_of.2 (by kernel_rfl) (fun _ _ _ _ _ _ us hl => match us, hl with | [_], _ => rfl) (by decide) (by decide)
  exact ⟨_, He.glo_ok X G (c.fact 23 (f := .glo "order_of") rfl), F.kp, r⟩
theorem at_first_ones (X : K.In h) (G : h.Ns mainGlobals mg) (c : He.SaysD fa fn K) : FnAt P w K mg base 7 "first_ones" F_first_ones := by
  obtain ⟨fd, F⟩ := c.def_ 24 (d := dd "first_ones" 55) rfl
  have m : Mod0 M_first_ones P w K mg base := ⟨(tab_cons (at_order_of X G c) tab_nil), free_all X G c, fun _ _ h => absurd h List.not_mem_nil⟩
  have r := fnr_def (ps := ["table", "first"]) (N := ["table", "first"]) (mt := []) F m B_first_ones.2 (by kernel_rfl) (fun _ _ _ _ _ _ us hl => match us, hl with | [_, _], _ => rfl) (by decide) (by decide)
  exact ⟨_, He.glo_ok X G (c.fact 24 (f := .glo "first_ones") rfl), F.kp, r⟩
theorem at_head_of (X : K.In h) (G : h.Ns mainGlobals mg) (c : He.SaysD fa fn K) : FnAt P w K mg base 1 "head_of" F_head_of := by
  obtain ⟨fd, F⟩ := c.def_ 25 (d := dd "head_of" 41) rfl
  have m : Mod0 M_head_of P w K mg base := ⟨tab_nil, free_all X G c, fun _ _ h => absurd h List.not_mem_nil⟩
  have r := fnr_def (ps := ["some"]) (N := ["some", "place", "many"]) (mt := []) F m B_head_of.2 (by kernel_rfl) (fun _ _ _ _ _ _ us hl => match us, hl with | [_], _ => rfl) (by decide) (by decide)
  exact ⟨_, He.glo_ok X G (c.fact 25 (f := .glo "head_of") rfl), F.kp, r⟩
theorem at_sorted_list (X : K.In h) (G : h.Ns mainGlobals mg) (c : He.SaysD fa fn K) : FnAt P w K mg base 1 "sorted_list" F_sorted_list := by
  obtain ⟨fd, F⟩ := c.def_ 26 (d := dd "sorted_list" 39) rfl
  have m : Mod0 M_sorted_list P w K mg base := ⟨tab_nil, free_all X G c, fun _ _ h => absurd h List.not_mem_nil⟩
  have r := fnr_def (ps := ["some"]) (N := ["some"]) (mt := []) F m B_sorted_list.2 (by kernel_rfl) (fun _ _ _ _ _ _ us hl => match us, hl with | [_], _ => rfl) (by decide) (by decide)
  exact ⟨_, He.glo_ok X G (c.fact 26 (f := .glo "sorted_list") rfl), F.kp, r⟩
theorem at_list_of (X : K.In h) (G : h.Ns mainGlobals mg) (c : He.SaysD fa fn K) : FnAt P w K mg base 6 "list_of" F_list_of := by
  obtain ⟨fd, F⟩ := c.def_ 27 (d := dd "list_of" 40) rfl
  have m : Mod0 M_list_of P w K mg base := ⟨(tab_cons (at_sorted_list X G c) (tab_cons (at_counts X G c) tab_nil)), free_all X G c, fun _ _ h => absurd h List.not_mem_nil⟩
  have r := fnr_def (ps := ["table"]) (N := ["table"]) (mt := []) F m B_list_of.2 (by kernel_rfl) (fun _ _ _ _ _ _ us hl => match us, hl with | [_], _ => rfl) (by decide) (by decide)
  exact ⟨_, He.glo_ok X G (c.fact 27 (f := .glo "list_of") rfl), F.kp, r⟩
theorem at_head (X : K.In h) (G : h.Ns mainGlobals mg) (c : He.SaysD fa fn K) : FnAt P w K mg base 7 "head" F_head := by
  obtain ⟨fd, F⟩ := c.def_ 28 (d := dd "head" 43) rfl
  have m : Mod0 M_head P w K mg base := ⟨(tab_cons (at_head_of X G c) (tab_cons (at_list_of X G c) tab_nil)), free_all X G c, fun _ _ h => absurd h List.not_mem_nil⟩
  have r := fnr_def (ps := ["table"]) (N := ["table"]) (mt := []) F m B_head.2 (by kernel_rfl) (fun _ _ _ _ _ _ us hl => match us, hl with | [_], _ => rfl) (by decide) (by decide)
  exact ⟨_, He.glo_ok X G (c.fact 28 (f := .glo "head") rfl), F.kp, r⟩
theorem at_by_counts (X : K.In h) (G : h.Ns mainGlobals mg) (c : He.SaysD fa fn K) : FnAt P w K mg base 8 "by_counts" F_by_counts := by
  obtain ⟨fd, F⟩ := c.def_ 29 (d := dd "by_counts" 56) rfl
  have m : Mod0 M_by_counts P w K mg base := ⟨(tab_cons (at_first_ones X G c) (tab_cons (at_head X G c) tab_nil)), free_all X G c, fun _ _ h => absurd h List.not_mem_nil⟩
  have r := fnr_def (ps := ["table"]) (N := ["table"]) (mt := []) F m B_by_counts.2 (by kernel_rfl) (fun _ _ _ _ _ _ us hl => match us, hl with | [_], _ => rfl) (by decide) (by decide)
  exact ⟨_, He.glo_ok X G (c.fact 29 (f := .glo "by_counts") rfl), F.kp, r⟩
theorem at_is_empty (X : K.In h) (G : h.Ns mainGlobals mg) (c : He.SaysD fa fn K) : FnAt P w K mg base 2 "is_empty" F_is_empty := by
  obtain ⟨fd, F⟩ := c.def_ 30 (d := dd "is_empty" 28) rfl
  have m : Mod0 M_is_empty P w K mg base := ⟨(tab_cons (at_is_known X G c) tab_nil), free_all X G c, fun _ _ h => absurd h List.not_mem_nil⟩
  have r := fnr_def (ps := ["table", "lot"]) (N := ["table", "lot", "a", "b"]) (mt := []) F m B_is_empty.2 (by kernel_rfl) (fun _ _ _ _ _ _ us hl => match us, hl with | [_, _], _ => rfl) (by decide) (by decide)
  exact ⟨_, He.glo_ok X G (c.fact 30 (f := .glo "is_empty") rfl), F.kp, r⟩
theorem at_others (X : K.In h) (G : h.Ns mainGlobals mg) (c : He.SaysD fa fn K) : FnAt P w K mg base 2 "others" F_others := by
  obtain ⟨fd, F⟩ := c.def_ 31 (d := dd "others" 48) rfl
  have m : Mod0 M_others P w K mg base := ⟨(tab_cons (at_people X G c) tab_nil), free_all X G c, fun _ _ h => absurd h List.not_mem_nil⟩
  have r := fnr_def (ps := ["table", "lot"]) (N := ["table", "lot", "one"]) (mt := []) F m B_others.2 (by kernel_rfl) (fun _ _ _ _ _ _ us hl => match us, hl with | [_, _], _ => rfl) (by decide) (by decide)
  exact ⟨_, He.glo_ok X G (c.fact 31 (f := .glo "others") rfl), F.kp, r⟩
theorem at_is_full (X : K.In h) (G : h.Ns mainGlobals mg) (c : He.SaysD fa fn K) : FnAt P w K mg base 2 "is_full" F_is_full := by
  obtain ⟨fd, F⟩ := c.def_ 32 (d := dd "is_full" 27) rfl
  have m : Mod0 M_is_full P w K mg base := ⟨(tab_cons (at_is_known X G c) tab_nil), free_all X G c, fun _ _ h => absurd h List.not_mem_nil⟩
  have r := fnr_def (ps := ["table", "lot"]) (N := ["table", "lot", "a", "b"]) (mt := []) F m B_is_full.2 (by kernel_rfl) (fun _ _ _ _ _ _ us hl => match us, hl with | [_, _], _ => rfl) (by decide) (by decide)
  exact ⟨_, He.glo_ok X G (c.fact 32 (f := .glo "is_full") rfl), F.kp, r⟩
theorem at_does_part (X : K.In h) (G : h.Ns mainGlobals mg) (c : He.SaysD fa fn K) : FnAt P w K mg base 3 "does_part" F_does_part := by
  obtain ⟨fd, F⟩ := c.def_ 33 (d := dd "does_part" 49) rfl
  have m : Mod0 M_does_part P w K mg base := ⟨(tab_cons (at_is_empty X G c) (tab_cons (at_others X G c) (tab_cons (at_is_full X G c) tab_nil))), free_all X G c, fun _ _ h => absurd h List.not_mem_nil⟩
  have r := fnr_def (ps := ["table", "lot"]) (N := ["table", "lot"]) (mt := []) F m B_does_part.2 (by kernel_rfl) (fun _ _ _ _ _ _ us hl => match us, hl with | [_, _], _ => rfl) (by decide) (by decide)
  exact ⟨_, He.glo_ok X G (c.fact 33 (f := .glo "does_part") rfl), F.kp, r⟩
theorem at_a_parting (X : K.In h) (G : h.Ns mainGlobals mg) (c : He.SaysD fa fn K) : FnAt P w K mg base 9 "a_parting" F_a_parting := by
  obtain ⟨fd, F⟩ := c.def_ 34 (d := dd "a_parting" 57) rfl
  have m : Mod0 M_a_parting P w K mg base := ⟨(tab_cons (at_by_counts X G c) (tab_cons (at_does_part X G c) tab_nil)), free_all X G c, fun _ _ h => absurd h List.not_mem_nil⟩
  have r := fnr_def (ps := ["table"]) (N := ["table", "lot"]) (mt := []) F m B_a_parting.2 (by kernel_rfl) (fun _ _ _ _ _ _ us hl => match us, hl with | [_], _ => rfl) (by decide) (by decide)
  exact ⟨_, He.glo_ok X G (c.fact 34 (f := .glo "a_parting") rfl), F.kp, r⟩
theorem at_all_lots (X : K.In h) (G : h.Ns mainGlobals mg) (c : He.SaysD fa fn K) : FnAt P w K mg base 2 "all_lots" F_all_lots := by
  obtain ⟨fd, F⟩ := c.def_ 35 (d := dd "all_lots" 47) rfl
  have m : Mod0 M_all_lots P w K mg base := ⟨(tab_cons (at_people X G c) tab_nil), free_all X G c, fun _ _ h => absurd h List.not_mem_nil⟩
  have r := fnr_def (ps := ["table"]) (N := ["table", "found", "one", "lot", "many"]) (mt := []) F m B_all_lots.2 (by kernel_rfl) (fun _ _ _ _ _ _ us hl => match us, hl with | [_], _ => rfl) (by decide) (by decide)
  exact ⟨_, He.glo_ok X G (c.fact 35 (f := .glo "all_lots") rfl), F.kp, r⟩
theorem at_partings (X : K.In h) (G : h.Ns mainGlobals mg) (c : He.SaysD fa fn K) : FnAt P w K mg base 4 "partings" F_partings := by
  obtain ⟨fd, F⟩ := c.def_ 36 (d := dd "partings" 51) rfl
  have m : Mod0 M_partings P w K mg base := ⟨(tab_cons (at_all_lots X G c) (tab_cons (at_does_part X G c) tab_nil)), free_all X G c, fun _ _ h => absurd h List.not_mem_nil⟩
  have r := fnr_def (ps := ["table"]) (N := ["table", "lot"]) (mt := []) F m B_partings.2 (by kernel_rfl) (fun _ _ _ _ _ _ us hl => match us, hl with | [_], _ => rfl) (by decide) (by decide)
  exact ⟨_, He.glo_ok X G (c.fact 36 (f := .glo "partings") rfl), F.kp, r⟩
theorem at_partings_many (X : K.In h) (G : h.Ns mainGlobals mg) (c : He.SaysD fa fn K) : FnAt P w K mg base 5 "partings_many" F_partings_many := by
  obtain ⟨fd, F⟩ := c.def_ 37 (d := dd "partings_many" 52) rfl
  have m : Mod0 M_partings_many P w K mg base := ⟨(tab_cons (at_partings X G c) tab_nil), free_all X G c, fun _ _ h => absurd h List.not_mem_nil⟩
  have r := fnr_def (ps := ["table"]) (N := ["table"]) (mt := []) F m B_partings_many.2 (by kernel_rfl) (fun _ _ _ _ _ _ us hl => match us, hl with | [_], _ => rfl) (by decide) (by decide)
  exact ⟨_, He.glo_ok X G (c.fact 37 (f := .glo "partings_many") rfl), F.kp, r⟩
theorem at_lack_of (X : K.In h) (G : h.Ns mainGlobals mg) (c : He.SaysD fa fn K) : FnAt P w K mg base 2 "lack_of" F_lack_of := by
  obtain ⟨fd, F⟩ := c.def_ 38 (d := dd "lack_of" 42) rfl
  have m : Mod0 M_lack_of P w K mg base := ⟨(tab_cons (at_head_of X G c) tab_nil), free_all X G c, fun _ _ h => absurd h List.not_mem_nil⟩
  have r := fnr_def (ps := ["some"]) (N := ["some", "first"]) (mt := []) F m B_lack_of.2 (by kernel_rfl) (fun _ _ _ _ _ _ us hl => match us, hl with | [_], _ => rfl) (by decide) (by decide)
  exact ⟨_, He.glo_ok X G (c.fact 38 (f := .glo "lack_of") rfl), F.kp, r⟩
theorem at_lack (X : K.In h) (G : h.Ns mainGlobals mg) (c : He.SaysD fa fn K) : FnAt P w K mg base 7 "lack" F_lack := by
  obtain ⟨fd, F⟩ := c.def_ 39 (d := dd "lack" 44) rfl
  have m : Mod0 M_lack P w K mg base := ⟨(tab_cons (at_lack_of X G c) (tab_cons (at_list_of X G c) tab_nil)), free_all X G c, fun _ _ h => absurd h List.not_mem_nil⟩
  have r := fnr_def (ps := ["table"]) (N := ["table"]) (mt := []) F m B_lack.2 (by kernel_rfl) (fun _ _ _ _ _ _ us hl => match us, hl with | [_], _ => rfl) (by decide) (by decide)
  exact ⟨_, He.glo_ok X G (c.fact 39 (f := .glo "lack") rfl), F.kp, r⟩
theorem at_all_couples (X : K.In h) (G : h.Ns mainGlobals mg) (c : He.SaysD fa fn K) : FnAt P w K mg base 1 "all_couples" F_all_couples := by
  obtain ⟨fd, F⟩ := c.def_ 40 (d := dd "all_couples" 19) rfl
  have m : Mod0 M_all_couples P w K mg base := ⟨tab_nil, free_all X G c, fun _ _ h => absurd h List.not_mem_nil⟩
  have r := fnr_def (ps := ["many"]) (N := ["many", "a", "b"]) (mt := []) F m B_all_couples.2 (by kernel_rfl) (fun _ _ _ _ _ _ us hl => match us, hl with | [_], _ => rfl) (by decide) (by decide)
  exact ⟨_, He.glo_ok X G (c.fact 40 (f := .glo "all_couples") rfl), F.kp, r⟩
theorem at_need_two (X : K.In h) (G : h.Ns mainGlobals mg) (c : He.SaysD fa fn K) : FnAt P w K mg base 4 "need_two" F_need_two := by
  obtain ⟨fd, F⟩ := c.def_ 41 (d := dd "need_two" 22) rfl
  have m : Mod0 M_need_two P w K mg base := ⟨(tab_cons (at_need_people X G c) tab_nil), free_all X G c, fun _ _ h => absurd h List.not_mem_nil⟩
  have r := fnr_def (ps := ["table", "a", "b"]) (N := ["table", "a", "b"]) (mt := []) F m B_need_two.2 (by kernel_rfl) (fun _ _ _ _ _ _ us hl => match us, hl with | [_, _, _], _ => rfl) (by decide) (by decide)
  exact ⟨_, He.glo_ok X G (c.fact 41 (f := .glo "need_two") rfl), F.kp, r⟩
theorem at_without_couple (X : K.In h) (G : h.Ns mainGlobals mg) (c : He.SaysD fa fn K) : FnAt P w K mg base 5 "without_couple" F_without_couple := by
  obtain ⟨fd, F⟩ := c.def_ 42 (d := dd "without_couple" 24) rfl
  have m : Mod0 M_without_couple P w K mg base := ⟨(tab_cons (at_need_two X G c) (tab_cons (at_is_known X G c) tab_nil)), free_all X G c, fun _ _ h => absurd h List.not_mem_nil⟩
  have r := fnr_def (ps := ["table", "a", "b"]) (N := ["table", "a", "b", "couple"]) (mt := []) F m B_without_couple.2 (by kernel_rfl) (fun _ _ _ _ _ _ us hl => match us, hl with | [_, _, _], _ => rfl) (by decide) (by decide)
  exact ⟨_, He.glo_ok X G (c.fact 42 (f := .glo "without_couple") rfl), F.kp, r⟩
theorem at_with_couple (X : K.In h) (G : h.Ns mainGlobals mg) (c : He.SaysD fa fn K) : FnAt P w K mg base 5 "with_couple" F_with_couple := by
  obtain ⟨fd, F⟩ := c.def_ 43 (d := dd "with_couple" 23) rfl
  have m : Mod0 M_with_couple P w K mg base := ⟨(tab_cons (at_need_two X G c) (tab_cons (at_is_known X G c) tab_nil)), free_all X G c, fun _ _ h => absurd h List.not_mem_nil⟩
  have r := fnr_def (ps := ["table", "a", "b"]) (N := ["table", "a", "b"]) (mt := []) F m B_with_couple.2 (by kernel_rfl) (fun _ _ _ _ _ _ us hl => match us, hl with | [_, _, _], _ => rfl) (by decide) (by decide)
  exact ⟨_, He.glo_ok X G (c.fact 43 (f := .glo "with_couple") rfl), F.kp, r⟩
theorem at_told_otherwise (X : K.In h) (G : h.Ns mainGlobals mg) (c : He.SaysD fa fn K) : FnAt P w K mg base 6 "told_otherwise" F_told_otherwise := by
  obtain ⟨fd, F⟩ := c.def_ 44 (d := dd "told_otherwise" 68) rfl
  have m : Mod0 M_told_otherwise P w K mg base := ⟨(tab_cons (at_is_known X G c) (tab_cons (at_without_couple X G c) (tab_cons (at_with_couple X G c) tab_nil))), free_all X G c, fun _ _ h => absurd h List.not_mem_nil⟩
  have r := fnr_def (ps := ["table", "a", "b"]) (N := ["table", "a", "b"]) (mt := []) F m B_told_otherwise.2 (by kernel_rfl) (fun _ _ _ _ _ _ us hl => match us, hl with | [_, _, _], _ => rfl) (by decide) (by decide)
  exact ⟨_, He.glo_ok X G (c.fact 44 (f := .glo "told_otherwise") rfl), F.kp, r⟩
theorem at_lack_by (X : K.In h) (G : h.Ns mainGlobals mg) (c : He.SaysD fa fn K) : FnAt P w K mg base 8 "lack_by" F_lack_by := by
  obtain ⟨fd, F⟩ := c.def_ 45 (d := dd "lack_by" 69) rfl
  have m : Mod0 M_lack_by P w K mg base := ⟨(tab_cons (at_lack X G c) (tab_cons (at_told_otherwise X G c) tab_nil)), free_all X G c, fun _ _ h => absurd h List.not_mem_nil⟩
  have r := fnr_def (ps := ["table", "a", "b"]) (N := ["table", "a", "b"]) (mt := []) F m B_lack_by.2 (by kernel_rfl) (fun _ _ _ _ _ _ us hl => match us, hl with | [_, _, _], _ => rfl) (by decide) (by decide)
  exact ⟨_, He.glo_ok X G (c.fact 45 (f := .glo "lack_by") rfl), F.kp, r⟩
theorem at_better (X : K.In h) (G : h.Ns mainGlobals mg) (c : He.SaysD fa fn K) : FnAt P w K mg base 9 "better" F_better := by
  obtain ⟨fd, F⟩ := c.def_ 46 (d := dd "better" 71) rfl
  have m : Mod0 M_better P w K mg base := ⟨(tab_cons (at_all_couples X G c) (tab_cons (at_people X G c) (tab_cons (at_lack_by X G c) (tab_cons (at_lack X G c) tab_nil)))), free_all X G c, fun _ _ h => absurd h List.not_mem_nil⟩
  have r := fnr_def (ps := ["table"]) (N := ["table", "a", "b"]) (mt := []) F m B_better.2 (by kernel_rfl) (fun _ _ _ _ _ _ us hl => match us, hl with | [_], _ => rfl) (by decide) (by decide)
  exact ⟨_, He.glo_ok X G (c.fact 46 (f := .glo "better") rfl), F.kp, r⟩
theorem at_half_lack (X : K.In h) (G : h.Ns mainGlobals mg) (c : He.SaysD fa fn K) : FnAt P w K mg base 8 "half_lack" F_half_lack := by
  obtain ⟨fd, F⟩ := c.def_ 47 (d := dd "half_lack" 45) rfl
  have m : Mod0 M_half_lack P w K mg base := ⟨(tab_cons (at_lack X G c) tab_nil), free_all X G c, fun _ _ h => absurd h List.not_mem_nil⟩
  have r := fnr_def (ps := ["table"]) (N := ["table"]) (mt := []) F m B_half_lack.2 (by kernel_rfl) (fun _ _ _ _ _ _ us hl => match us, hl with | [_], _ => rfl) (by decide) (by decide)
  exact ⟨_, He.glo_ok X G (c.fact 47 (f := .glo "half_lack") rfl), F.kp, r⟩
theorem at_fewest_wrong (X : K.In h) (G : h.Ns mainGlobals mg) (c : He.SaysD fa fn K) : FnAt P w K mg base 9 "fewest_wrong" F_fewest_wrong := by
  obtain ⟨fd, F⟩ := c.def_ 48 (d := dd "fewest_wrong" 73) rfl
  have m : Mod0 M_fewest_wrong P w K mg base := ⟨(tab_cons (at_half_lack X G c) tab_nil), free_all X G c, fun _ _ h => absurd h List.not_mem_nil⟩
  have r := fnr_def (ps := ["table"]) (N := ["table"]) (mt := []) F m B_fewest_wrong.2 (by kernel_rfl) (fun _ _ _ _ _ _ us hl => match us, hl with | [_], _ => rfl) (by decide) (by decide)
  exact ⟨_, He.glo_ok X G (c.fact 48 (f := .glo "fewest_wrong") rfl), F.kp, r⟩
theorem at_strangers (X : K.In h) (G : h.Ns mainGlobals mg) (c : He.SaysD fa fn K) : FnAt P w K mg base 2 "strangers" F_strangers := by
  obtain ⟨fd, F⟩ := c.def_ 49 (d := dd "strangers" 20) rfl
  have m : Mod0 M_strangers P w K mg base := ⟨(tab_cons (at_all_couples X G c) tab_nil), free_all X G c, fun _ _ h => absurd h List.not_mem_nil⟩
  have r := fnr_def (ps := ["table"]) (N := ["table", "couple"]) (mt := []) F m B_strangers.2 (by kernel_rfl) (fun _ _ _ _ _ _ us hl => match us, hl with | [_], _ => rfl) (by decide) (by decide)
  exact ⟨_, He.glo_ok X G (c.fact 49 (f := .glo "strangers") rfl), F.kp, r⟩
theorem at_turned (X : K.In h) (G : h.Ns mainGlobals mg) (c : He.SaysD fa fn K) : FnAt P w K mg base 3 "turned" F_turned := by
  obtain ⟨fd, F⟩ := c.def_ 50 (d := dd "turned" 26) rfl
  have m : Mod0 M_turned P w K mg base := ⟨(tab_cons (at_strangers X G c) tab_nil), free_all X G c, fun _ _ h => absurd h List.not_mem_nil⟩
  have r := fnr_def (ps := ["table"]) (N := ["table"]) (mt := []) F m B_turned.2 (by kernel_rfl) (fun _ _ _ _ _ _ us hl => match us, hl with | [_], _ => rfl) (by decide) (by decide)
  exact ⟨_, He.glo_ok X G (c.fact 50 (f := .glo "turned") rfl), F.kp, r⟩
theorem at__law_alike (X : K.In h) (G : h.Ns mainGlobals mg) (c : He.SaysD fa fn K) : FnAt P w K mg base 1 "_law_alike" F__law_alike := by
  obtain ⟨fd, F⟩ := c.def_ 51 (d := dd "_law_alike" 78) rfl
  have m : Mod0 M__law_alike P w K mg base := ⟨tab_nil, free_all X G c, fun _ _ h => absurd h List.not_mem_nil⟩
  have r := fnr_def (ps := ["found", "due"]) (N := ["found", "due", "pairs", "at", "one", "other"]) (mt := [2]) F m B__law_alike.2 (by kernel_rfl) (fun _ _ _ _ _ _ us hl => match us, hl with | [_, _], _ => rfl) (by decide) (by decide)
  exact ⟨_, He.glo_ok X G (c.fact 51 (f := .glo "_law_alike") rfl), F.kp, r⟩
theorem at_are_all (X : K.In h) (G : h.Ns mainGlobals mg) (c : He.SaysD fa fn K) : FnAt P w K mg base 2 "are_all" F_are_all := by
  obtain ⟨fd, F⟩ := c.def_ 52 (d := dd "are_all" 10) rfl
  have m : Mod0 M_are_all P w K mg base := ⟨(tab_cons (at_is_integer X G c) tab_nil), free_all X G c, fun _ _ h => absurd h List.not_mem_nil⟩
  have r := fnr_def (ps := ["thing", "fits"]) (N := ["thing", "fits", "member"]) (mt := []) F m B_are_all.2 (by kernel_rfl) (fun _ _ _ _ _ _ us hl => match us, hl with | [_, _], _ => rfl) (by decide) (by decide)
  exact ⟨_, He.glo_ok X G (c.fact 52 (f := .glo "are_all") rfl), F.kp, r⟩
theorem at_are_integers (X : K.In h) (G : h.Ns mainGlobals mg) (c : He.SaysD fa fn K) : FnAt P w K mg base 3 "are_integers" F_are_integers := by
  obtain ⟨fd, F⟩ := c.def_ 53 (d := dd "are_integers" 11) rfl
  have m : Mod0 M_are_integers P w K mg base := ⟨(tab_cons (at_are_all X G c) (tab_cons (at_is_integer X G c) tab_nil)), free_all X G c, fun _ _ h => absurd h List.not_mem_nil⟩
  have r := fnr_def (ps := ["thing"]) (N := ["thing"]) (mt := []) F m B_are_integers.2 (by kernel_rfl) (fun _ _ _ _ _ _ us hl => match us, hl with | [_], _ => rfl) (by decide) (by decide)
  exact ⟨_, He.glo_ok X G (c.fact 53 (f := .glo "are_integers") rfl), F.kp, r⟩
theorem at_do_rise (X : K.In h) (G : h.Ns mainGlobals mg) (c : He.SaysD fa fn K) : FnAt P w K mg base 4 "do_rise" F_do_rise := by
  obtain ⟨fd, F⟩ := c.def_ 54 (d := dd "do_rise" 13) rfl
  have m : Mod0 M_do_rise P w K mg base := ⟨(tab_cons (at_are_all X G c) (tab_cons (at_are_integers X G c) tab_nil)), free_all X G c, fun _ _ h => absurd h List.not_mem_nil⟩
  have r := fnr_def (ps := ["thing"]) (N := ["thing", "one", "other"]) (mt := []) F m B_do_rise.2 (by kernel_rfl) (fun _ _ _ _ _ _ us hl => match us, hl with | [_], _ => rfl) (by decide) (by decide)
  exact ⟨_, He.glo_ok X G (c.fact 54 (f := .glo "do_rise") rfl), F.kp, r⟩
theorem at_is_lot (X : K.In h) (G : h.Ns mainGlobals mg) (c : He.SaysD fa fn K) : FnAt P w K mg base 5 "is_lot" F_is_lot := by
  obtain ⟨fd, F⟩ := c.def_ 55 (d := dd "is_lot" 21) rfl
  have m : Mod0 M_is_lot P w K mg base := ⟨(tab_cons (at_do_rise X G c) (tab_cons (at_are_integers X G c) tab_nil)), free_all X G c, fun _ _ h => absurd h List.not_mem_nil⟩
  have r := fnr_def (ps := ["table", "thing"]) (N := ["table", "thing", "one"]) (mt := []) F m B_is_lot.2 (by kernel_rfl) (fun _ _ _ _ _ _ us hl => match us, hl with | [_, _], _ => rfl) (by decide) (by decide)
  exact ⟨_, He.glo_ok X G (c.fact 55 (f := .glo "is_lot") rfl), F.kp, r⟩
theorem at_is_parting (X : K.In h) (G : h.Ns mainGlobals mg) (c : He.SaysD fa fn K) : FnAt P w K mg base 6 "is_parting" F_is_parting := by
  obtain ⟨fd, F⟩ := c.def_ 56 (d := dd "is_parting" 50) rfl
  have m : Mod0 M_is_parting P w K mg base := ⟨(tab_cons (at_does_part X G c) (tab_cons (at_is_lot X G c) tab_nil)), free_all X G c, fun _ _ h => absurd h List.not_mem_nil⟩
  have r := fnr_def (ps := ["table", "thing"]) (N := ["table", "thing"]) (mt := []) F m B_is_parting.2 (by kernel_rfl) (fun _ _ _ _ _ _ us hl => match us, hl with | [_, _], _ => rfl) (by decide) (by decide)
  exact ⟨_, He.glo_ok X G (c.fact 56 (f := .glo "is_parting") rfl), F.kp, r⟩
theorem at_rings_of (X : K.In h) (G : h.Ns mainGlobals mg) (c : He.SaysD fa fn K) : FnAt P w K mg base 2 "rings_of" F_rings_of := by
  obtain ⟨fd, F⟩ := c.def_ 57 (d := dd "rings_of" 34) rfl
  have m : Mod0 M_rings_of P w K mg base := ⟨(tab_cons (at_people X G c) (tab_cons (at_is_known X G c) tab_nil)), free_all X G c, fun _ _ h => absurd h List.not_mem_nil⟩
  have r := fnr_def (ps := ["table", "many"]) (N := ["table", "many", "found", "turn", "longer", "row", "some", "one"]) (mt := [4]) F m B_rings_of.2 (by kernel_rfl) (fun _ _ _ _ _ _ us hl => match us, hl with | [_, _], _ => rfl) (by decide) (by decide)
  exact ⟨_, He.glo_ok X G (c.fact 57 (f := .glo "rings_of") rfl), F.kp, r⟩
theorem at_are_different (X : K.In h) (G : h.Ns mainGlobals mg) (c : He.SaysD fa fn K) : FnAt P w K mg base 6 "are_different" F_are_different := by
  obtain ⟨fd, F⟩ := c.def_ 58 (d := dd "are_different" 30) rfl
  have m : Mod0 M_are_different P w K mg base := ⟨(tab_cons (at_are_integers X G c) (tab_cons (at_is_lot X G c) tab_nil)), free_all X G c, fun _ _ h => absurd h List.not_mem_nil⟩
  have r := fnr_def (ps := ["table", "thing", "many"]) (N := ["table", "thing", "many"]) (mt := []) F m B_are_different.2 (by kernel_rfl) (fun _ _ _ _ _ _ us hl => match us, hl with | [_, _, _], _ => rfl) (by decide) (by decide)
  exact ⟨_, He.glo_ok X G (c.fact 58 (f := .glo "are_different") rfl), F.kp, r⟩
theorem at_known_among (X : K.In h) (G : h.Ns mainGlobals mg) (c : He.SaysD fa fn K) : FnAt P w K mg base 2 "known_among" F_known_among := by
  obtain ⟨fd, F⟩ := c.def_ 59 (d := dd "known_among" 31) rfl
  have m : Mod0 M_known_among P w K mg base := ⟨(tab_cons (at_is_known X G c) tab_nil), free_all X G c, fun _ _ h => absurd h List.not_mem_nil⟩
  have r := fnr_def (ps := ["table", "some"]) (N := ["table", "some", "places", "at", "to"]) (mt := []) F m B_known_among.2 (by kernel_rfl) (fun _ _ _ _ _ _ us hl => match us, hl with | [_, _], _ => rfl) (by decide) (by decide)
  exact ⟨_, He.glo_ok X G (c.fact 59 (f := .glo "known_among") rfl), F.kp, r⟩
theorem at_is_square (X : K.In h) (G : h.Ns mainGlobals mg) (c : He.SaysD fa fn K) : FnAt P w K mg base 7 "is_square" F_is_square := by
  obtain ⟨fd, F⟩ := c.def_ 60 (d := dd "is_square" 32) rfl
  have m : Mod0 M_is_square P w K mg base := ⟨(tab_cons (at_are_different X G c) (tab_cons (at_known_among X G c) tab_nil)), free_all X G c, fun _ _ h => absurd h List.not_mem_nil⟩
  have r := fnr_def (ps := ["table", "thing"]) (N := ["table", "thing"]) (mt := []) F m B_is_square.2 (by kernel_rfl) (fun _ _ _ _ _ _ us hl => match us, hl with | [_, _], _ => rfl) (by decide) (by decide)
  exact ⟨_, He.glo_ok X G (c.fact 60 (f := .glo "is_square") rfl), F.kp, r⟩
theorem at_squares (X : K.In h) (G : h.Ns mainGlobals mg) (c : He.SaysD fa fn K) : FnAt P w K mg base 8 "squares" F_squares := by
  obtain ⟨fd, F⟩ := c.def_ 61 (d := dd "squares" 35) rfl
  have m : Mod0 M_squares P w K mg base := ⟨(tab_cons (at_rings_of X G c) (tab_cons (at_is_square X G c) tab_nil)), free_all X G c, fun _ _ h => absurd h List.not_mem_nil⟩
  have r := fnr_def (ps := ["table"]) (N := ["table", "row"]) (mt := []) F m B_squares.2 (by kernel_rfl) (fun _ _ _ _ _ _ us hl => match us, hl with | [_], _ => rfl) (by decide) (by decide)
  exact ⟨_, He.glo_ok X G (c.fact 61 (f := .glo "squares") rfl), F.kp, r⟩
theorem at_is_five (X : K.In h) (G : h.Ns mainGlobals mg) (c : He.SaysD fa fn K) : FnAt P w K mg base 7 "is_five" F_is_five := by
  obtain ⟨fd, F⟩ := c.def_ 62 (d := dd "is_five" 33) rfl
  have m : Mod0 M_is_five P w K mg base := ⟨(tab_cons (at_are_different X G c) (tab_cons (at_known_among X G c) tab_nil)), free_all X G c, fun _ _ h => absurd h List.not_mem_nil⟩
  have r := fnr_def (ps := ["table", "thing"]) (N := ["table", "thing"]) (mt := []) F m B_is_five.2 (by kernel_rfl) (fun _ _ _ _ _ _ us hl => match us, hl with | [_, _], _ => rfl) (by decide) (by decide)
  exact ⟨_, He.glo_ok X G (c.fact 62 (f := .glo "is_five") rfl), F.kp, r⟩
theorem at_fives (X : K.In h) (G : h.Ns mainGlobals mg) (c : He.SaysD fa fn K) : FnAt P w K mg base 8 "fives" F_fives := by
  obtain ⟨fd, F⟩ := c.def_ 63 (d := dd "fives" 36) rfl
  have m : Mod0 M_fives P w K mg base := ⟨(tab_cons (at_rings_of X G c) (tab_cons (at_is_five X G c) tab_nil)), free_all X G c, fun _ _ h => absurd h List.not_mem_nil⟩
  have r := fnr_def (ps := ["table"]) (N := ["table", "row"]) (mt := []) F m B_fives.2 (by kernel_rfl) (fun _ _ _ _ _ _ us hl => match us, hl with | [_], _ => rfl) (by decide) (by decide)
  exact ⟨_, He.glo_ok X G (c.fact 63 (f := .glo "fives") rfl), F.kp, r⟩
theorem at__law_lack (X : K.In h) (G : h.Ns mainGlobals mg) (c : He.SaysD fa fn K) : FnAt P w K mg base 1 "_law_lack" F__law_lack := by
  obtain ⟨fd, F⟩ := c.def_ 64 (d := dd "_law_lack" 88) rfl
  have m : Mod0 M__law_lack P w K mg base := ⟨tab_nil, free_all X G c, fun _ _ h => absurd h List.not_mem_nil⟩
  have r := fnr_def (ps := ["some"]) (N := ["some", "row", "head_v", "place", "many"]) (mt := []) F m B__law_lack.2 (by kernel_rfl) (fun _ _ _ _ _ _ us hl => match us, hl with | [_], _ => rfl) (by decide) (by decide)
  exact ⟨_, He.glo_ok X G (c.fact 64 (f := .glo "_law_lack") rfl), F.kp, r⟩
theorem at__law_counts (X : K.In h) (G : h.Ns mainGlobals mg) (c : He.SaysD fa fn K) : FnAt P w K mg base 1 "_law_counts" F__law_counts := by
  obtain ⟨fd, F⟩ := c.def_ 65 (d := dd "_law_counts" 87) rfl
  have m : Mod0 M__law_counts P w K mg base := ⟨tab_nil, free_all X G c, fun _ _ h => absurd h List.not_mem_nil⟩
  have r := fnr_def (ps := ["table"]) (N := ["table", "one", "couple"]) (mt := []) F m B__law_counts.2 (by kernel_rfl) (fun _ _ _ _ _ _ us hl => match us, hl with | [_], _ => rfl) (by decide) (by decide)
  exact ⟨_, He.glo_ok X G (c.fact 65 (f := .glo "_law_counts") rfl), F.kp, r⟩
theorem at_goes (X : K.In h) (G : h.Ns mainGlobals mg) (c : He.SaysD fa fn K) : FnAt P w K mg base 2 "goes" F_goes := by
  obtain ⟨fd, F⟩ := c.def_ 66 (d := dd "goes" 59) rfl
  have m : Mod0 M_goes P w K mg base := ⟨(tab_cons (at_is_known X G c) tab_nil), free_all X G c, fun _ _ h => absurd h List.not_mem_nil⟩
  have r := fnr_def (ps := ["table", "change"]) (N := ["table", "change", "a", "b", "c", "d"]) (mt := []) F m B_goes.2 (by kernel_rfl) (fun _ _ _ _ _ _ us hl => match us, hl with | [_, _], _ => rfl) (by decide) (by decide)
  exact ⟨_, He.glo_ok X G (c.fact 66 (f := .glo "goes") rfl), F.kp, r⟩
theorem at_in_turn (X : K.In h) (G : h.Ns mainGlobals mg) (c : He.SaysD fa fn K) : FnAt P w K mg base 1 "in_turn" F_in_turn := by
  obtain ⟨fd, F⟩ := c.def_ 67 (d := dd "in_turn" 61) rfl
  have m : Mod0 M_in_turn P w K mg base := ⟨tab_nil, free_all X G c, fun _ _ h => absurd h List.not_mem_nil⟩
  have r := fnr_def (ps := ["a", "b", "c", "d"]) (N := ["a", "b", "c", "d"]) (mt := []) F m B_in_turn.2 (by kernel_rfl) (fun _ _ _ _ _ _ us hl => match us, hl with | [_, _, _, _], _ => rfl) (by decide) (by decide)
  exact ⟨_, He.glo_ok X G (c.fact 67 (f := .glo "in_turn") rfl), F.kp, r⟩
theorem at_changes (X : K.In h) (G : h.Ns mainGlobals mg) (c : He.SaysD fa fn K) : FnAt P w K mg base 3 "changes" F_changes := by
  obtain ⟨fd, F⟩ := c.def_ 68 (d := dd "changes" 62) rfl
  have m : Mod0 M_changes P w K mg base := ⟨(tab_cons (at_goes X G c) (tab_cons (at_in_turn X G c) tab_nil)), free_all X G c, fun _ _ h => absurd h List.not_mem_nil⟩
  have r := fnr_def (ps := ["table"]) (N := ["table", "found", "a", "b", "c", "d", "row", "one"]) (mt := [1]) F m B_changes.2 (by kernel_rfl) (fun _ _ _ _ _ _ us hl => match us, hl with | [_], _ => rfl) (by decide) (by decide)
  exact ⟨_, He.glo_ok X G (c.fact 68 (f := .glo "changes") rfl), F.kp, r⟩
theorem at_is_change (X : K.In h) (G : h.Ns mainGlobals mg) (c : He.SaysD fa fn K) : FnAt P w K mg base 6 "is_change" F_is_change := by
  obtain ⟨fd, F⟩ := c.def_ 69 (d := dd "is_change" 60) rfl
  have m : Mod0 M_is_change P w K mg base := ⟨(tab_cons (at_is_lot X G c) (tab_cons (at_are_integers X G c) (tab_cons (at_goes X G c) tab_nil))), free_all X G c, fun _ _ h => absurd h List.not_mem_nil⟩
  have r := fnr_def (ps := ["table", "thing"]) (N := ["table", "thing"]) (mt := []) F m B_is_change.2 (by kernel_rfl) (fun _ _ _ _ _ _ us hl => match us, hl with | [_, _], _ => rfl) (by decide) (by decide)
  exact ⟨_, He.glo_ok X G (c.fact 69 (f := .glo "is_change") rfl), F.kp, r⟩
theorem at_need_change (X : K.In h) (G : h.Ns mainGlobals mg) (c : He.SaysD fa fn K) : FnAt P w K mg base 7 "need_change" F_need_change := by
  obtain ⟨fd, F⟩ := c.def_ 70 (d := dd "need_change" 64) rfl
  have m : Mod0 M_need_change P w K mg base := ⟨(tab_cons (at_is_change X G c) tab_nil), free_all X G c, fun _ _ h => absurd h List.not_mem_nil⟩
  have r := fnr_def (ps := ["table", "change"]) (N := ["table", "change"]) (mt := []) F m B_need_change.2 (by kernel_rfl) (fun _ _ _ _ _ _ us hl => match us, hl with | [_, _], _ => rfl) (by decide) (by decide)
  exact ⟨_, He.glo_ok X G (c.fact 70 (f := .glo "need_change") rfl), F.kp, r⟩
theorem at_by_change (X : K.In h) (G : h.Ns mainGlobals mg) (c : He.SaysD fa fn K) : FnAt P w K mg base 1 "by_change" F_by_change := by
  obtain ⟨fd, F⟩ := c.def_ 71 (d := dd "by_change" 63) rfl
  have m : Mod0 M_by_change P w K mg base := ⟨tab_nil, free_all X G c, fun _ _ h => absurd h List.not_mem_nil⟩
  have r := fnr_def (ps := ["table", "change"]) (N := ["table", "change", "a", "b", "c", "d", "gone", "come", "couple"]) (mt := []) F m B_by_change.2 (by kernel_rfl) (fun _ _ _ _ _ _ us hl => match us, hl with | [_, _], _ => rfl) (by decide) (by decide)
  exact ⟨_, He.glo_ok X G (c.fact 71 (f := .glo "by_change") rfl), F.kp, r⟩
theorem at_changed (X : K.In h) (G : h.Ns mainGlobals mg) (c : He.SaysD fa fn K) : FnAt P w K mg base 8 "changed" F_changed := by
  obtain ⟨fd, F⟩ := c.def_ 72 (d := dd "changed" 65) rfl
  have m : Mod0 M_changed P w K mg base := ⟨(tab_cons (at_need_change X G c) (tab_cons (at_by_change X G c) tab_nil)), free_all X G c, fun _ _ h => absurd h List.not_mem_nil⟩
  have r := fnr_def (ps := ["table", "change"]) (N := ["table", "change"]) (mt := []) F m B_changed.2 (by kernel_rfl) (fun _ _ _ _ _ _ us hl => match us, hl with | [_, _], _ => rfl) (by decide) (by decide)
  exact ⟨_, He.glo_ok X G (c.fact 72 (f := .glo "changed") rfl), F.kp, r⟩
theorem at_is_still (X : K.In h) (G : h.Ns mainGlobals mg) (c : He.SaysD fa fn K) : FnAt P w K mg base 4 "is_still" F_is_still := by
  obtain ⟨fd, F⟩ := c.def_ 73 (d := dd "is_still" 66) rfl
  have m : Mod0 M_is_still P w K mg base := ⟨(tab_cons (at_changes X G c) tab_nil), free_all X G c, fun _ _ h => absurd h List.not_mem_nil⟩
  have r := fnr_def (ps := ["table"]) (N := ["table"]) (mt := []) F m B_is_still.2 (by kernel_rfl) (fun _ _ _ _ _ _ us hl => match us, hl with | [_], _ => rfl) (by decide) (by decide)
  exact ⟨_, He.glo_ok X G (c.fact 73 (f := .glo "is_still") rfl), F.kp, r⟩
theorem at_lack_with (X : K.In h) (G : h.Ns mainGlobals mg) (c : He.SaysD fa fn K) : FnAt P w K mg base 9 "lack_with" F_lack_with := by
  obtain ⟨fd, F⟩ := c.def_ 74 (d := dd "lack_with" 70) rfl
  have m : Mod0 M_lack_with P w K mg base := ⟨(tab_cons (at_need_two X G c) (tab_cons (at_lack_by X G c) tab_nil)), free_all X G c, fun _ _ h => absurd h List.not_mem_nil⟩
  have r := fnr_def (ps := ["table", "a", "b"]) (N := ["table", "a", "b"]) (mt := []) F m B_lack_with.2 (by kernel_rfl) (fun _ _ _ _ _ _ us hl => match us, hl with | [_, _, _], _ => rfl) (by decide) (by decide)
  exact ⟨_, He.glo_ok X G (c.fact 74 (f := .glo "lack_with") rfl), F.kp, r⟩
theorem at_part_of (X : K.In h) (G : h.Ns mainGlobals mg) (c : He.SaysD fa fn K) : FnAt P w K mg base 6 "part_of" F_part_of := by
  obtain ⟨fd, F⟩ := c.def_ 75 (d := dd "part_of" 25) rfl
  have m : Mod0 M_part_of P w K mg base := ⟨(tab_cons (at_is_lot X G c) tab_nil), free_all X G c, fun _ _ h => absurd h List.not_mem_nil⟩
  have r := fnr_def (ps := ["table", "lot"]) (N := ["table", "lot", "places", "place", "one", "a", "b"]) (mt := []) F m B_part_of.2 (by kernel_rfl) (fun _ _ _ _ _ _ us hl => match us, hl with | [_, _], _ => rfl) (by decide) (by decide)
  exact ⟨_, He.glo_ok X G (c.fact 75 (f := .glo "part_of") rfl), F.kp, r⟩
theorem at__law_part_of (X : K.In h) (G : h.Ns mainGlobals mg) (c : He.SaysD fa fn K) : FnAt P w K mg base 1 "_law_part_of" F__law_part_of := by
  obtain ⟨fd, F⟩ := c.def_ 76 (d := dd "_law_part_of" 92) rfl
  have m : Mod0 M__law_part_of P w K mg base := ⟨tab_nil, free_all X G c, fun _ _ h => absurd h List.not_mem_nil⟩
  have r := fnr_def (ps := ["table", "lot"]) (N := ["table", "lot", "places", "place", "one", "a", "b"]) (mt := []) F m B__law_part_of.2 (by kernel_rfl) (fun _ _ _ _ _ _ us hl => match us, hl with | [_, _], _ => rfl) (by decide) (by decide)
  exact ⟨_, He.glo_ok X G (c.fact 76 (f := .glo "_law_part_of") rfl), F.kp, r⟩
theorem at_law (X : K.In h) (G : h.Ns mainGlobals mg) (c : He.SaysD fa fn K) : FnAt P w K mg base 10 "law" F_law := by
  obtain ⟨fd, F⟩ := c.def_ 77 (d := dd "law" 95) rfl
  have m : Mod0 M_law P w K mg base := ⟨(tab_cons (at__law_bag X G c) (tab_cons (at__law_table X G c) (tab_cons (at__law_partings X G c) (tab_cons (at__law_bars X G c) (tab_cons (at_a_parting X G c) (tab_cons (at__law_couples X G c) (tab_cons (at_partings X G c) (tab_cons (at_partings_many X G c) (tab_cons (at_lack X G c) (tab_cons (at_better X G c) (tab_cons (at_fewest_wrong X G c) (tab_cons (at_turned X G c) (tab_cons (at__law_alike X G c) (tab_cons (at_is_parting X G c) (tab_cons (at__law_others X G c) (tab_cons (at_squares X G c) (tab_cons (at_fives X G c) (tab_cons (at_half_lack X G c) (tab_cons (at__law_lack X G c) (tab_cons (at__law_counts X G c) (tab_cons (at_changes X G c) (tab_cons (at_changed X G c) (tab_cons (at_is_still X G c) (tab_cons (at_lack_with X G c) (tab_cons (at__law_some X G c) (tab_cons (at__law_lots X G c) (tab_cons (at_part_of X G c) (tab_cons (at__law_part_of X G c) tab_nil)))))))))))))))))))))))))))), free_all X G c, fun _ _ h => absurd h List.not_mem_nil⟩
  have r := fnr_def (ps := ["script"]) (N := ["script", "bag", "turn", "table", "many", "every", "bars", "told", "about", "found", "rings", "change", "there", "a", "b", "lot", "part", "one", "its", "word", "row"]) (mt := []) F m B_law.2 (by kernel_rfl) (fun _ _ _ _ _ _ us hl => match us, hl with | [_], _ => rfl) (by decide) (by decide)
  exact ⟨_, He.glo_ok X G (c.fact 77 (f := .glo "law") rfl), F.kp, r⟩
end
theorem facts {P : Program} {w : World} {K : PySem.W.Frag} {h : Heap} {mg : Str → Option Value} {f : Addr} (KX : K.In h) (G : h.Ns mainGlobals mg) (hfa : mg ("law" : Str) = some (.ref f)) (c : He.SaysD fa fn K) :
    ∃ fd : FuncData, (∀ (s : Shared) (v : Value), BindsTo s fd ⟨[v], []⟩ [("script", v)]) ∧ ∀ base : Heap, K.In base → base.Ns mainGlobals mg → FnOk P w K mg base CX0 10 f fd ["script"] (spW K mg F_law) := by
  obtain ⟨fd, F⟩ := c.def_ 77 (d := dd "law" 95) rfl
  have e := hfa.symm.trans (He.glo_ok KX G (c.fact 77 (f := .glo "law") rfl))
  cases e
  have b := FunD.bindsA (ps := ["script"]) F fun _ _ _ _ _ _ us hl => match us, hl with | [_], _ => rfl
  refine ⟨fd, fun s v => b s [v] rfl, fun base KX Gb => ?_⟩
  have m : Mod0 M_law P w K mg base := ⟨(tab_cons (at__law_bag KX Gb c) (tab_cons (at__law_table KX Gb c) (tab_cons (at__law_partings KX Gb c) (tab_cons (at__law_bars KX Gb c) (tab_cons (at_a_parting KX Gb c) (tab_cons (at__law_couples KX Gb c) (tab_cons (at_partings KX Gb c) (tab_cons (at_partings_many KX Gb c) (tab_cons (at_lack KX Gb c) (tab_cons (at_better KX Gb c) (tab_cons (at_fewest_wrong KX Gb c) (tab_cons (at_turned KX Gb c) (tab_cons (at__law_alike KX Gb c) (tab_cons (at_is_parting KX Gb c) (tab_cons (at__law_others KX Gb c) (tab_cons (at_squares KX Gb c) (tab_cons (at_fives KX Gb c) (tab_cons (at_half_lack KX Gb c) (tab_cons (at__law_lack KX Gb c) (tab_cons (at__law_counts KX Gb c) (tab_cons (at_changes KX Gb c) (tab_cons (at_changed KX Gb c) (tab_cons (at_is_still KX Gb c) (tab_cons (at_lack_with KX Gb c) (tab_cons (at__law_some KX Gb c) (tab_cons (at__law_lots KX Gb c) (tab_cons (at_part_of KX Gb c) (tab_cons (at__law_part_of KX Gb c) tab_nil)))))))))))))))))))))))))))), free_all KX Gb c, fun _ _ h => absurd h List.not_mem_nil⟩
  exact fnok_def (ps := ["script"]) (N := ["script", "bag", "turn", "table", "many", "every", "bars", "told", "about", "found", "rings", "change", "there", "a", "b", "lot", "part", "one", "its", "word", "row"]) (mt := []) F m B_law.2 (by kernel_rfl) (by decide) (by decide)
end P92

set_option Elab.async false
set_option linter.all false
set_option maxRecDepth 100000
set_option maxHeartbeats 0
open PySem PySem.W PySem.Calls PyProof.Rows
theorem PySem.Challenge.cw_clubroom_k92_whole_partings_bars_counts_holds : PySem.Challenge.rw_clubroom_k92_whole_partings_bars_counts.Holds := by
  w_on; o_law
  refine HandSHeadRun.head_any (r := OpenLaw.row PySem.Challenge.rw_clubroom_k92_whole_partings_bars_counts) (q := view (OpenLaw.row PySem.Challenge.rw_clubroom_k92_whole_partings_bars_counts).prog [95]) (H := P92.hk) (ob := P92.ob) (M := 3000) (loose := P92.loose) (d := HandSHeadRun.topDef (OpenLaw.row PySem.Challenge.rw_clubroom_k92_whole_partings_bars_counts).prog 95) (kwd := []) P92.ob_eq
    (by kernel_rfl) (fun s => by kernel_rfl) P92.run (by kernel_rfl) (by kernel_rfl) (by kernel_rfl) (by rfl) (by first | assumption | decide +kernel) (by decide +kernel) ⟨rfl, rfl, rfl, rfl, rfl, by decide +kernel⟩ ?hw ?hc
  case hw => w_witness2
  case hc =>
    refine L2.walk_ofE (l := PySem.Challenge.rw_clubroom_k92_whole_partings_bars_counts) (n := 63) (k := 10) (x := "script") (CX := L2.CX0) rfl (by decide) (by kernel_rfl) ⟨rfl, by decide, by decide⟩ ?F (fun _ _ _ _ z => z)
    intro w mg fa h Y G hmg0
    obtain ⟨K, KX, c⟩ := Y
    have hmg : mg ("law" : PySem.Str) = some (.ref fa) := by
      have e : (HandSHeadRun.topDef (OpenLaw.row PySem.Challenge.rw_clubroom_k92_whole_partings_bars_counts).prog 95).name = ("law" : PySem.Str) := by kernel_rfl
      rw [← e]
      exact hmg0
    obtain ⟨fd, hb, hF⟩ := P92.facts (P := (PySem.Challenge.rw_clubroom_k92_whole_partings_bars_counts).prog) (w := w) KX G hmg c
    exact ⟨K, fd, PW.spW K mg P92.F_law, KX, hb, fun H a ns hl _ hS => PW.sp_law P92.law_true hl hS _, hF⟩
