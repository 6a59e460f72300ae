import PyProof.Rows.All
import Wide.All
import OpenK.AllK
import Wide.FinOn
import PySem.Challenge.RW_pealworks_k24_whole_paths_and_work
import HandS.ForMost
import HandS.More
import HandS.WordsExc
import HandS.Defaults
import HandS.Walk
import HandS.Deep
import HandS.TupAny
import HandS.TupMul
import HandS.Conv
import HandS.Zip
import HandS.Iter
import KE.GoesEnum
import KE.GoesZip
import HandS.IsInst
import HandS.Flow
import HandS.Style
import HandS.Text
import HandS.HeadEnd
import KE.DatumIndex
import HandS.Rev
import HandS.Strs
import HandS.SortOrd
import HandS.SortInts
import HandS.NamedTupSort
import HandS.SortRule
import HandS.SetFor
import HandS.TupSets
import KE.KRevSl
import PyProof.StrOps2
import KE.DataMinMax
import KE.SortData
import KE.KDictSum
import KE.KDictCopyH
import KE.KDictPairs
import HandS.TupLen
import KE.KDictKeyed
import HandS.Head0
import HandS.Head1
import HandS.Head2
import HandS.HeadHook1
import HandS.HeadHook2
set_option Elab.async false
set_option linter.all false
set_option maxRecDepth 100000
namespace Dn
open PySem PySem.Spec PyProof.Rows L2

/-! ## data, trees of draws -/
/-- who may change a list: its one slot; nobody any more; nobody within this call; nobody within this statement -/
inductive Fl | own | frz | arg | bor deriving DecidableEq

inductive D where
  | non | bl (b : Bool) | int (i : Int) | str (x : Str) | pot
  | tup (xs : List D) | lst (f : Fl) (xs : List D) | dic (f : Fl) (kvs : List (D × D))

inductive T (α : Type) : Type where
  | ret (a : α) | draw (n : Int) (k : Int → T α) | fail
namespace T
def bind {α β : Type} : T α → (α → T β) → T β
  | .ret a, f => f a
  | .draw n k, f => .draw n fun i => (k i).bind f
  | .fail, _ => .fail
/-- whatever is drawn, it comes to an end of which Q holds -/
def Holds {α : Type} (Q : α → Prop) : T α → Prop
  | .ret a => Q a
  | .draw n k => ∀ i, 0 ≤ i → i < n → (k i).Holds Q
  | .fail => False
theorem Holds.mono {α : Type} {Q Q' : α → Prop} : ∀ {t : T α}, t.Holds Q → (∀ a, Q a → Q' a) → t.Holds Q'
  | .ret _, h, f => f _ h
  | .draw _ k, h, f => fun i a b => Holds.mono (t := k i) (h i a b) f
  | .fail, h, _ => h
theorem holds_bind {α β : Type} {Q : β → Prop} {f : α → T β} : ∀ {t : T α}, (t.bind f).Holds Q → t.Holds fun a => (f a).Holds Q
  | .ret _, h => h
  | .draw _ k, h => fun i a b => holds_bind (t := k i) (h i a b)
  | .fail, h => h
theorem bind_holds {α β : Type} {Q : β → Prop} {f : α → T β} : ∀ {t : T α}, t.Holds (fun a => (f a).Holds Q) → (t.bind f).Holds Q
  | .ret _, h => h
  | .draw _ k, h => fun i a b => bind_holds (t := k i) (h i a b)
  | .fail, h => h
theorem bind_assoc {α β γ : Type} (f : α → T β) (g : β → T γ) : ∀ t : T α, (t.bind f).bind g = t.bind fun a => (f a).bind g
  | .ret _ => rfl
  | .draw _ k => by
    show T.draw _ _ = T.draw _ _
    congr 1
    funext i
    exact bind_assoc f g (k i)
  | .fail => rfl
@[simp] theorem ret_bind {α β : Type} (a : α) (f : α → T β) : (T.ret a).bind f = f a := rfl
@[simp] theorem fail_bind {α β : Type} (f : α → T β) : (T.fail : T α).bind f = T.fail := rfl
/-- a value that may be lacking -/
def ofO {α : Type} : Option α → T α
  | some a => .ret a
  | none => .fail
end T

/-! ## data and the abstract heap -/
/-- how a list with flag f stands within a thing that is read as m -/
def eff (m f : Fl) : Option Fl := match m with
  | .own => some f
  | .frz => (match f with | .own => some .frz | .bor => none | g => some g)
  | .arg => (match f with | .frz => some .frz | _ => some .arg)
  | .bor => (match f with | .frz => some .frz | _ => some .bor)

/-- which addresses stand still, and for how long -/
structure Zs where
  f : Addr → Prop
  a : Addr → Prop
  b : Addr → Prop
  pot : Option Addr
abbrev Zs.nob (Z : Zs) : Zs := { Z with b := fun _ => False }
def Zs.ok (Z : Zs) : Fl → Addr → Prop
  | .own, _ => False
  | .frz, p => Z.f p
  | .arg, p => Z.a p
  | .bor, p => Z.b p

def scV : D → Option V
  | .non => some .non
  | .bl b => some (.bl b)
  | .int i => some (.int i)
  | .str x => some (.str x)
  | _ => none
def ofKey : Key → D
  | .inl i => .int i
  | .inr x => .str x
/-- the hash of a tuple of whole numbers -/
def tHashI (ns : List Int) : Int := reduceHash (Builtin.Tuple.tupleHashOf (ns.map hashInt))
/-- the dict at p, its keys tuples of whole numbers; what the keys are is told elsewhere -/
def DicR (p : Addr) (ks : List (Addr × List Int)) (vs : List V) (h : Heap) : Prop :=
  (p == sysModules) = false ∧ ks.length ≤ sizeLine ∧ ks.length = vs.length ∧ (ks.map (·.2)).Nodup ∧ ∃ (o : Obj) (es : Array DictEntry) (ep : Nat) (us : List Value), h.get? p = some o ∧ o.ExactDict ∧ o.data = .dict es ep ∧ Vals vs us ∧
    es.toList = List.zipWith (fun (k : Addr × List Int) (u : Value) => (⟨tHashI k.2, .ref k.1, u⟩ : DictEntry)) ks us
def DicO (p : Addr) (ks : List (Addr × List Int)) (vs : List V) : HO := .ext fun h => DicR p ks vs h
/-- a dict's object, by its keys and values -/
inductive DObj : Addr → List D → List V → List V → HO → Prop
  | x {p : Addr} {ks : List (Addr × List Int)} {vs : List V} : ks.length = vs.length → DObj p (ks.map fun k => .tup (k.2.map .int)) (ks.map fun k => V.ref k.1) vs (DicO p ks vs)
/-- keys, then values -/
def kvL (kvs : List (D × D)) : List D := kvs.map (·.1) ++ kvs.map (·.2)

/-- a tuple that has no dict of its own -/
def NewT (o : Obj) : Prop := o.cls = .type "tuple" ∧ o.dict = none
def TupX (K : PySem.W.Frag) (H : Hp) (p : Addr) (ws : List V) : Prop :=
  (∃ o, NewT o ∧ H p = some (.frz o (.tup ws))) ∨ ∃ (o : Obj) (its : Array Value) (n : Nat), K.lookup p = some o ∧ NewT o ∧ o.data = .seq its n ∧ its.size ≤ sizeLine ∧ Vals ws its.toList
theorem TupX.sq {K : PySem.W.Frag} {H : Hp} {p : Addr} {ws : List V} (h : TupX K H p ws) : SqT K H p ws := by
  rcases h with ⟨o, _, h⟩ | ⟨o, its, n, e, c, d, z, r⟩
  · exact .inl (.inr ⟨o, h⟩)
  · exact .inr ⟨o, its, n, e, c.1, d, z, r⟩
/-- of a new tuple -/
def MkT (H : Hp) (ws : List V) (Q : V → Hp → Prop) : Prop := ∀ q o, NewT o → H q = none → Q (.ref q) (upd H q (.frz o (.tup ws)))
theorem TupX.new {K : PySem.W.Frag} {H : Hp} {p : Addr} {ws : List V} {o : Obj} (h : NewT o) : TupX K (upd H p (.frz o (.tup ws))) p ws := .inl ⟨o, h, upd_same⟩
inductive RepL (K : PySem.W.Frag) (Z : Zs) (H : Hp) : Fl → List D → List V → List Addr → Prop
  | nil {m} : RepL K Z H m [] [] []
  | sc {m d v ds vs F} : scV d = some v → RepL K Z H m ds vs F → RepL K Z H m (d :: ds) (v :: vs) F
  | pot {m p ds vs F} : Z.pot = some p → RepL K Z H m ds vs F → RepL K Z H m (.pot :: ds) (.ref p :: vs) F
  | tup {m p ws xs ds vs F} : TupX K H p ws → RepL K Z H .frz xs ws [] → RepL K Z H m ds vs F → RepL K Z H m (.tup xs :: ds) (.ref p :: vs) F
  | own {m f p ws xs ds vs F F'} : eff m f = some .own → H p = some (.lst ws) → RepL K Z H .own xs ws F' → RepL K Z H m ds vs F → RepL K Z H m (.lst f xs :: ds) (.ref p :: vs) (p :: (F' ++ F))
  | shr {m f g p ws xs ds vs F} : eff m f = some g → Z.ok g p → H p = some (.lst ws) → RepL K Z H g xs ws [] → RepL K Z H m ds vs F → RepL K Z H m (.lst f xs :: ds) (.ref p :: vs) F
  | down {m f p o kvs kws ws ds vs F F'} : eff m f = some .own → H p = some o → DObj p (kvs.map (·.1)) kws ws o → RepL K Z H .own (kvL kvs) (kws ++ ws) F' → RepL K Z H m ds vs F → RepL K Z H m (.dic f kvs :: ds) (.ref p :: vs) (p :: (F' ++ F))
  | dshr {m f g p o kvs kws ws ds vs F} : eff m f = some g → Z.ok g p → H p = some o → DObj p (kvs.map (·.1)) kws ws o → RepL K Z H g (kvL kvs) (kws ++ ws) [] → RepL K Z H m ds vs F → RepL K Z H m (.dic f kvs :: ds) (.ref p :: vs) F

/-- what is read as m may have borrowed parts -/
def Fl.lends : Fl → Prop
  | .own => True | .bor => True | _ => False
theorem eff_lends {m f g : Fl} (e : eff m f = some g) (h : g.lends) : m.lends := by
  revert e h
  cases m <;> cases f <;> simp [eff, Fl.lends] <;> rintro rfl <;> simp
theorem Zs.ok_up {Z Z' : Zs} {g : Fl} {p : Addr} (f : ∀ p, Z.f p → Z'.f p) (a : ∀ p, Z.a p → Z'.a p) (b : g.lends → ∀ p, Z.b p → Z'.b p) (h : Z.ok g p) : Z'.ok g p := by
  cases g
  · exact h
  · exact f _ h
  · exact a _ h
  · exact b trivial _ h
/-- the addresses on which a thing leans -/
def Lean (Z : Zs) (m : Fl) (F : List Addr) (p : Addr) : Prop := p ∈ F ∨ Z.f p ∨ Z.a p ∨ (m.lends ∧ Z.b p)
theorem Zs.ok_lean {Z : Zs} {m f g : Fl} {p : Addr} {F : List Addr} (e : eff m f = some g) (h : Z.ok g p) : Lean Z m F p := by
  cases g
  · exact h.elim
  · exact .inr (.inl h)
  · exact .inr (.inr (.inl h))
  · exact .inr (.inr (.inr ⟨eff_lends e trivial, h⟩))
theorem Lean.sub {Z : Zs} {m m' : Fl} {F F' : List Addr} {p : Addr} (h : Lean Z m F p) (hm : m.lends → m'.lends) (hF : ∀ p ∈ F, p ∈ F') : Lean Z m' F' p :=
  h.imp (hF p) (Or.imp id (Or.imp id (And.imp hm id)))
section
variable {K : PySem.W.Frag} {Z Z' : Zs} {H H' : Hp} {m g : Fl} {ds es : List D} {vs us : List V} {F F1 F2 : List Addr} {d : D} {v : V}
theorem RepL.len (h : RepL K Z H m ds vs F) : ds.length = vs.length := by
  induction h <;> simp_all
theorem RepL.fp (h : RepL K Z H m ds vs F) : ∀ p ∈ F, ∃ o, H p = some o := by
  induction h with
  | nil => intro p hp; cases hp
  | sc _ _ ih => exact ih
  | pot _ _ ih => exact ih
  | tup _ _ _ _ ih => exact ih
  | own _ e _ _ ih1 ih2 =>
    intro p hp
    rcases List.mem_cons.mp hp with rfl | hp
    · exact ⟨_, e⟩
    · exact (List.mem_append.mp hp).elim (ih1 p) (ih2 p)
  | shr _ _ _ _ _ _ ih => exact ih
  | down _ e _ _ _ ih1 ih2 =>
    intro p hp
    rcases List.mem_cons.mp hp with rfl | hp
    · exact ⟨_, e⟩
    · exact (List.mem_append.mp hp).elim (ih1 p) (ih2 p)
  | dshr _ _ _ _ _ _ _ ih => exact ih
theorem mem_head {p q : Addr} {F' F : List Addr} (h : q ∈ F') : q ∈ p :: (F' ++ F) := List.mem_cons_of_mem _ (List.mem_append_left _ h)
theorem mem_tail {p q : Addr} {F' F : List Addr} (h : q ∈ F) : q ∈ p :: (F' ++ F) := List.mem_cons_of_mem _ (List.mem_append_right _ h)
/-- carried to another heap -/
theorem RepL.carry (h : RepL K Z H m ds vs F) : ∀ {Z' : Zs}, (∀ p, Z.f p → Z'.f p) → (∀ p, Z.a p → Z'.a p) → (m.lends → ∀ p, Z.b p → Z'.b p) → (∀ p, Z.pot = some p → Z'.pot = some p) →
    (∀ p o, Lean Z m F p → H p = some o → H' p = some o) → (∀ p ws, TupX K H p ws → TupX K H' p ws) → RepL K Z' H' m ds vs F := by
  induction h with
  | nil => intros; exact .nil
  | sc e _ ih => intro Z' a b c p k t; exact .sc e (ih a b c p k t)
  | pot e _ ih => intro Z' a b c p k t; exact .pot (p _ e) (ih a b c p k t)
  | tup e _ _ ih1 ih2 =>
    intro Z' a b c p k t
    exact .tup (t _ _ e) (ih1 a b (fun z => z.elim) p (fun q o hq => k q o (hq.sub (fun z => z.elim) fun _ z => nomatch z)) t) (ih2 a b c p k t)
  | own e1 e2 _ _ ih1 ih2 =>
    intro Z' a b c p k t
    have hl := eff_lends e1 trivial
    exact .own e1 (k _ _ (.inl List.mem_cons_self) e2) (ih1 a b (fun _ => c hl) p (fun q o hq => k q o (hq.sub (fun _ => hl) fun _ => mem_head)) t) (ih2 a b c p (fun q o hq => k q o (hq.sub id fun _ => mem_tail)) t)
  | shr e0 e1 e2 _ _ ih1 ih2 =>
    intro Z' a b c pp k t
    have hl := eff_lends e0
    exact .shr e0 (Zs.ok_up a b (fun z => c (hl z)) e1) (k _ _ (Zs.ok_lean e0 e1) e2) (ih1 a b (fun z => c (hl z)) pp (fun q o hq => k q o (hq.sub hl fun _ z => nomatch z)) t) (ih2 a b c pp k t)
  | down e1 e2 e3 _ _ ih1 ih2 =>
    intro Z' a b c p k t
    have hl := eff_lends e1 trivial
    exact .down e1 (k _ _ (.inl List.mem_cons_self) e2) e3 (ih1 a b (fun _ => c hl) p (fun q o hq => k q o (hq.sub (fun _ => hl) fun _ => mem_head)) t) (ih2 a b c p (fun q o hq => k q o (hq.sub id fun _ => mem_tail)) t)
  | dshr e0 e1 e2 e3 _ _ ih1 ih2 =>
    intro Z' a b c pp k t
    have hl := eff_lends e0
    exact .dshr e0 (Zs.ok_up a b (fun z => c (hl z)) e1) (k _ _ (Zs.ok_lean e0 e1) e2) e3 (ih1 a b (fun z => c (hl z)) pp (fun q o hq => k q o (hq.sub hl fun _ z => nomatch z)) t) (ih2 a b c pp k t)
theorem eff_own {m f : Fl} (e : eff m f = some .own) : m = .own ∧ f = .own := by
  revert e
  cases m <;> cases f <;> simp [eff]
theorem eff_new {m' : Fl} (n : m' ≠ .own) : eff m' .own = some m' := by
  cases m' <;> simp_all [eff]
/-- read as m', a list that was read as g is read as m' or as g -/
theorem eff_demote {m m' f g : Fl} (n : m' ≠ .own) (hm : m' = .frz → m = .own ∨ m = .frz) (e : eff m f = some g) (hg : g ≠ .own) (hb : m' ≠ .bor → m'= .arg ∨ g ≠ .bor) : eff m' f = some m' ∧ (m' = .frz → g = .frz) ∨ eff m' f = some g := by
  revert e n hg hb hm
  cases m <;> cases m' <;> cases f <;> simp [eff] <;> (try rintro rfl) <;> simp
/-- handed on as something that may be read alone: m' is frz, arg or bor -/
theorem RepL.demote (h : RepL K Z H m ds vs F) : ∀ {Z' : Zs} {m' : Fl}, m' ≠ .own → (m' = .frz → m = .own ∨ m = .frz) → (m' = .frz → ∀ p, ¬ Z.b p) → (∀ p, Z.f p → Z'.f p) → (∀ p, Z.a p → Z'.a p) → (∀ p, Z.pot = some p → Z'.pot = some p) →
    (∀ p o, H p = some o → p ∈ F → Z'.ok m' p) → (m' ≠ .frz → ∀ p o, H p = some o → (Z.f p ∨ Z.a p ∨ Z.b p) → Z'.ok m' p) → RepL K Z' H m' ds vs [] := by
  induction h with
  | nil => intros; exact .nil
  | sc e _ ih => intro Z' m' n mm nb a b p k r; exact .sc e (ih n mm nb a b p k r)
  | pot e _ ih => intro Z' m' n mm nb a b p k r; exact .pot (p _ e) (ih n mm nb a b p k r)
  | tup e h1 _ _ ih2 =>
    intro Z' m' n mm nb a b p k r
    exact .tup e (h1.carry a b (fun z => z.elim) p (fun q o _ => id) fun _ _ => id) (ih2 n mm nb a b p k r)
  | own e1 e2 h1 _ ih1 ih2 =>
    intro Z' m' n mm nb a b pp k r
    obtain ⟨rfl, rfl⟩ := eff_own e1
    exact .shr (eff_new n) (k _ _ e2 List.mem_cons_self) e2 (ih1 n (fun _ => .inl rfl) nb a b pp (fun q o hq hm => k q o hq (mem_head hm)) r) (ih2 n mm nb a b pp (fun q o hq hm => k q o hq (mem_tail hm)) r)
  | @shr m f g p ws xs ds vs F e0 e1 e2 h1 _ ih1 ih2 =>
    intro Z' m' n mm nb a b pp k r
    have hz : Z.f p ∨ Z.a p ∨ Z.b p := by
      cases g
      · exact e1.elim
      · exact .inl e1
      · exact .inr (.inl e1)
      · exact .inr (.inr e1)
    have hg : g ≠ .own := by rintro rfl; exact e1
    have hb : m' ≠ .bor → m' = .arg ∨ g ≠ .bor := by
      intro h
      cases m'
      · exact absurd rfl n
      · refine .inr ?_
        rintro rfl
        exact nb rfl p e1
      · exact .inl rfl
      · exact absurd rfl h
    have r' : ∀ p o, H p = some o → p ∈ ([] : List Addr) → Z'.ok m' p := fun _ _ _ z => nomatch z
    by_cases hq : eff m' f = some m' ∧ (m' = .frz → g = .frz)
    · obtain ⟨q, q'⟩ := hq
      refine .shr q ?_ e2 (ih1 n (fun z => .inr (q' z)) nb a b pp r' r) (ih2 n mm nb a b pp k r)
      by_cases hm : m' = .frz
      · have z := q' hm
        subst z
        subst hm
        exact a _ e1
      · exact r hm _ _ e2 hz
    · rcases eff_demote n mm e0 hg hb with q | q
      · exact absurd q hq
      · by_cases hl : g = .bor
        · subst hl
          have em : m' = .bor := by
            revert q n
            cases m' <;> cases f <;> simp [eff]
          subst em
          exact .shr q (r (by decide) _ _ e2 hz) e2 (ih1 n (fun z => nomatch z) nb a b pp r' r) (ih2 n mm nb a b pp k r)
        · have gl : ¬ g.lends := by cases g <;> simp_all [Fl.lends]
          exact .shr q (Zs.ok_up a b (fun z => absurd z gl) e1) e2 (h1.carry a b (fun z => absurd z gl) pp (fun _ _ _ => id) fun _ _ => id) (ih2 n mm nb a b pp k r)
  | @down m f p o kvs kws ws ds vs F F' e1 e2 e3 h1 _ ih1 ih2 =>
    intro Z' m' n mm nb a b pp k r
    obtain ⟨rfl, rfl⟩ := eff_own e1
    exact .dshr (eff_new n) (k _ _ e2 List.mem_cons_self) e2 e3 (ih1 n (fun _ => .inl rfl) nb a b pp (fun q o hq hm => k q o hq (mem_head hm)) r) (ih2 n mm nb a b pp (fun q o hq hm => k q o hq (mem_tail hm)) r)
  | @dshr m f g p o kvs kws ws ds vs F e0 e1 e2 e3 h1 _ ih1 ih2 =>
    intro Z' m' n mm nb a b pp k r
    have hz : Z.f p ∨ Z.a p ∨ Z.b p := by
      cases g
      · exact e1.elim
      · exact .inl e1
      · exact .inr (.inl e1)
      · exact .inr (.inr e1)
    have hg : g ≠ .own := by rintro rfl; exact e1
    have hb : m' ≠ .bor → m' = .arg ∨ g ≠ .bor := by
      intro h
      cases m'
      · exact absurd rfl n
      · refine .inr ?_
        rintro rfl
        exact nb rfl p e1
      · exact .inl rfl
      · exact absurd rfl h
    have r' : ∀ p o, H p = some o → p ∈ ([] : List Addr) → Z'.ok m' p := fun _ _ _ z => nomatch z
    by_cases hq : eff m' f = some m' ∧ (m' = .frz → g = .frz)
    · obtain ⟨q, q'⟩ := hq
      refine .dshr q ?_ e2 e3 (ih1 n (fun z => .inr (q' z)) nb a b pp r' r) (ih2 n mm nb a b pp k r)
      by_cases hm : m' = .frz
      · have z := q' hm
        subst z
        subst hm
        exact a _ e1
      · exact r hm _ _ e2 hz
    · rcases eff_demote n mm e0 hg hb with q | q
      · exact absurd q hq
      · by_cases hl : g = .bor
        · subst hl
          have em : m' = .bor := by
            revert q n
            cases m' <;> cases f <;> simp [eff]
          subst em
          exact .dshr q (r (by decide) _ _ e2 hz) e2 e3 (ih1 n (fun z => nomatch z) nb a b pp r' r) (ih2 n mm nb a b pp k r)
        · have gl : ¬ g.lends := by cases g <;> simp_all [Fl.lends]
          exact .dshr q (Zs.ok_up a b (fun z => absurd z gl) e1) e2 e3 (h1.carry a b (fun z => absurd z gl) pp (fun _ _ _ => id) fun _ _ => id) (ih2 n mm nb a b pp k r)
end
end Dn

set_option Elab.async false
set_option linter.all false
set_option maxRecDepth 100000
namespace Dn
open PySem PySem.Spec PyProof.Rows L2

section
variable {K : PySem.W.Frag} {Z Z' : Zs} {H H' : Hp} {m g : Fl} {ds es : List D} {vs us : List V} {F F1 F2 : List Addr} {d : D} {v : V}
theorem RepL.uncons (h : RepL K Z H m (d :: ds) (v :: vs) F) : ∃ F1 F2, F = F1 ++ F2 ∧ RepL K Z H m [d] [v] F1 ∧ RepL K Z H m ds vs F2 := by
  cases h with
  | sc e h => exact ⟨[], F, rfl, .sc e .nil, h⟩
  | pot e h => exact ⟨[], F, rfl, .pot e .nil, h⟩
  | tup e h1 h => exact ⟨[], F, rfl, .tup e h1 .nil, h⟩
  | @own m f p ws xs ds vs F2 F' e1 e2 h1 h => exact ⟨p :: (F' ++ []), F2, by simp, .own e1 e2 h1 .nil, h⟩
  | shr e0 e1 e2 h1 h => exact ⟨[], F, rfl, .shr e0 e1 e2 h1 .nil, h⟩
  | @down m f p o kvs kws ws ds vs F2 F' e1 e2 e3 h1 h => exact ⟨p :: (F' ++ []), F2, by simp, .down e1 e2 e3 h1 .nil, h⟩
  | dshr e0 e1 e2 e3 h1 h => exact ⟨[], F, rfl, .dshr e0 e1 e2 e3 h1 .nil, h⟩
theorem RepL.cons1 (h1 : RepL K Z H m [d] [v] F1) (h2 : RepL K Z H m ds vs F2) : RepL K Z H m (d :: ds) (v :: vs) (F1 ++ F2) := by
  cases h1 with
  | sc e h => cases h; exact .sc e h2
  | pot e h => cases h; exact .pot e h2
  | tup e h1 h => cases h; exact .tup e h1 h2
  | own e1 e2 h1 h => cases h; simpa using RepL.own e1 e2 h1 h2
  | shr e0 e1 e2 h1 h => cases h; exact .shr e0 e1 e2 h1 h2
  | down e1 e2 e3 h1 h => cases h; simpa using RepL.down e1 e2 e3 h1 h2
  | dshr e0 e1 e2 e3 h1 h => cases h; exact .dshr e0 e1 e2 e3 h1 h2
theorem RepL.nil_inv (h : RepL K Z H m [] vs F) : vs = [] ∧ F = [] := by cases h; exact ⟨rfl, rfl⟩
theorem RepL.append : ∀ {ds es : List D} {vs us : List V} {F1 F2 : List Addr}, RepL K Z H m ds vs F1 → RepL K Z H m es us F2 → RepL K Z H m (ds ++ es) (vs ++ us) (F1 ++ F2)
  | [], _, _, _, _, _, h1, h2 => by
    obtain ⟨rfl, rfl⟩ := h1.nil_inv
    exact h2
  | d :: ds, es, [], _, _, _, h1, _ => by have := h1.len; simp at this
  | d :: ds, es, v :: vs, us, _, F2, h1, h2 => by
    obtain ⟨Fa, Fb, rfl, ha, hb⟩ := h1.uncons
    have := RepL.cons1 ha (RepL.append hb h2)
    simpa using this
theorem RepL.at : ∀ {ds : List D} {vs : List V} {F : List Addr} {i : Nat} {d : D}, RepL K Z H m ds vs F → ds[i]? = some d → ∃ v F1, vs[i]? = some v ∧ F1.Sublist F ∧ RepL K Z H m [d] [v] F1
  | [], _, _, _, _, _, e => by simp at e
  | x :: ds, [], _, _, _, h, _ => by have := h.len; simp at this
  | x :: ds, v :: vs, F, 0, d, h, e => by
    obtain ⟨Fa, Fb, rfl, ha, hb⟩ := h.uncons
    cases (show x = d by simpa using e)
    exact ⟨v, Fa, rfl, List.sublist_append_left .., ha⟩
  | x :: ds, v :: vs, F, i + 1, d, h, e => by
    obtain ⟨Fa, Fb, rfl, ha, hb⟩ := h.uncons
    obtain ⟨w, F1, e1, e2, e3⟩ := RepL.at hb (i := i) (d := d) (by simpa using e)
    exact ⟨w, F1, by simpa using e1, e2.trans (List.sublist_append_right ..), e3⟩
theorem RepL.nofp (h : RepL K Z H m ds vs F) (n : m ≠ .own) : F = [] := by
  induction h with
  | nil => rfl
  | sc _ _ ih => exact ih n
  | pot _ _ ih => exact ih n
  | tup _ _ _ _ ih => exact ih n
  | own e _ _ _ _ _ => exact absurd (eff_own e).1 n
  | shr _ _ _ _ _ _ ih => exact ih n
  | down e _ _ _ _ _ _ => exact absurd (eff_own e).1 n
  | dshr _ _ _ _ _ _ _ ih => exact ih n

/-- what stands within a thing read as g, taken out of it -/
def deg (g : Fl) : D → D
  | .lst f xs => .lst ((eff g f).getD .bor) xs
  | .dic f kvs => .dic ((eff g f).getD .bor) kvs
  | d => d
theorem eff_self {g : Fl} : eff .own g = some g := by cases g <;> rfl
theorem RepL.out (h : RepL K Z H g [d] [v] F) (n : g ≠ .own) : RepL K Z H .own [deg g d] [v] [] := by
  have e := h.nofp n
  subst e
  cases h with
  | sc e h => cases h; cases d <;> simp [scV] at e <;> exact .sc (by simp [deg, scV, e]) .nil
  | pot e h => exact .pot e .nil
  | tup e h1 h => exact .tup e h1 .nil
  | shr e0 e1 e2 h1 h =>
    show RepL K Z H .own [.lst ((eff g _).getD .bor) _] _ _
    rw [e0]
    exact .shr eff_self e1 e2 h1 .nil
  | dshr e0 e1 e2 e3 h1 h =>
    show RepL K Z H .own [.dic ((eff g _).getD .bor) _] _ _
    rw [e0]
    exact .dshr eff_self e1 e2 e3 h1 .nil
end

/-! ## the ghost of a call; states -/
abbrev Env := List (Option D)
/-- the heap at the call's entry, where the pot of draws stands, what is frozen then -/
structure Gh where
  H0 : Hp
  pot : Option Addr
  Z0 : Addr → Prop
def PotObj (o : Option HO) : Prop := ∃ a b : Int, o = some (.lst [.int a, .int b]) ∧ 0 ≤ a ∧ 0 ≤ b ∧ b < 4294967296
def Gh.za (G : Gh) (p : Addr) : Prop := G.H0 p ≠ none ∧ some p ≠ G.pot
/-- in slots nothing is borrowed -/
def Gh.zs (G : Gh) (Z : Addr → Prop) : Zs := ⟨Z, G.za, fun _ => False, G.pot⟩
/-- within a statement one may borrow -/
def Gh.zt (G : Gh) (Z : Addr → Prop) : Zs := ⟨Z, G.za, fun p => some p ≠ G.pot, G.pot⟩
structure Grow (pot : Option Addr) (H H' : Hp) : Prop where
  keep : ∀ p o, some p ≠ pot → H p = some o → H' p = some o
structure Go (G : Gh) (Z : Addr → Prop) (H : Hp) (Z' : Addr → Prop) (H' : Hp) : Prop where
  grow : Grow G.pot H H'
  potA : ∀ p, G.pot = some p → PotObj (H p)
  potB : ∀ p, G.pot = some p → PotObj (H' p)
  zle : ∀ p, Z p → Z' p
  znew : ∀ p, Z' p → Z p ∨ H p = none
  zA : ∀ p, Z p → H p ≠ none ∧ some p ≠ G.pot
  zB : ∀ p, Z' p → H' p ≠ none ∧ some p ≠ G.pot
section
variable {K : PySem.W.Frag} {G : Gh} {Z Z' Z1 Z2 : Addr → Prop} {H H' H1 H2 : Hp}
theorem Grow.trans {pot} (a : Grow pot H H1) (b : Grow pot H1 H2) : Grow pot H H2 := ⟨fun p o n h => b.keep p o n (a.keep p o n h)⟩
theorem Grow.back {pot} (a : Grow pot H H1) {p : Addr} (n : some p ≠ pot) (h : H1 p = none) : H p = none := by
  cases q : H p with
  | none => rfl
  | some o => rw [a.keep p o n q] at h; cases h
theorem Go.trans (a : Go G Z H Z1 H1) (b : Go G Z1 H1 Z2 H2) : Go G Z H Z2 H2 where
  grow := a.grow.trans b.grow
  potA := a.potA
  potB := b.potB
  zle := fun p h => b.zle p (a.zle p h)
  znew := fun p h => (b.znew p h).elim (a.znew p) fun n => .inr (a.grow.back (b.zB p h).2 n)
  zA := a.zA
  zB := b.zB
theorem Go.refl (hp : ∀ p, G.pot = some p → PotObj (H p)) (hz : ∀ p, Z p → H p ≠ none ∧ some p ≠ G.pot) : Go G Z H Z H :=
  ⟨⟨fun _ _ _ h => h⟩, hp, hp, fun _ h => h, fun _ h => .inl h, hz, hz⟩
theorem Grow.mk1 {pot} {p : Addr} {o : HO} (h : H p = none) : Grow pot H (upd H p o) := ⟨fun q u _ e => by rw [upd_ne (ne_of_none e h)]; exact e⟩
/-- a new object -/
theorem Go.new {p : Addr} {o : HO} (hp : ∀ p, G.pot = some p → PotObj (H p)) (hz : ∀ p, Z p → H p ≠ none ∧ some p ≠ G.pot) (n : H p = none) : Go G Z H Z (upd H p o) where
  grow := .mk1 n
  potA := hp
  potB := fun q e => by
    obtain ⟨a, b, h, r⟩ := hp q e
    exact ⟨a, b, by rw [upd_ne (ne_of_none h n)]; exact h, r⟩
  zle := fun _ h => h
  znew := fun _ h => .inl h
  zA := hz
  zB := fun q h => ⟨by
    by_cases e : q = p
    · rw [e, upd_same]; simp
    · rw [upd_ne e]; exact (hz q h).1, (hz q h).2⟩
theorem Go.sqt (g : Go G Z H Z' H') {p : Addr} {ws : List V} (h : TupX K H p ws) : TupX K H' p ws := by
  rcases h with ⟨o, n, h⟩ | h
  · refine .inl ⟨o, n, g.grow.keep p _ (fun e => ?_) h⟩
    obtain ⟨a, b, q, _⟩ := g.potA p e.symm
    rw [h] at q; cases q
  · exact .inr h
/-- what is known stays known -/
theorem Go.lean (g : Go G Z H Z' H') (m : Fl) {F : List Addr} (hF : ∀ p ∈ F, some p ≠ G.pot) (p : Addr) (o : HO) (h : Lean (G.zt Z) m F p) (e : H p = some o) : H' p = some o := by
  refine g.grow.keep p o ?_ e
  rcases h with h | h | h | h
  · exact hF p h
  · exact (g.zA p h).2
  · exact h.2
  · exact h.2
theorem Go.repS (g : Go G Z H Z' H') {m : Fl} {ds : List D} {vs : List V} {F : List Addr} (h : RepL K (G.zs Z) H m ds vs F) (hF : ∀ p ∈ F, some p ≠ G.pot) : RepL K (G.zs Z') H' m ds vs F :=
  h.carry g.zle (fun _ z => z) (fun _ _ z => z) (fun _ z => z) (fun p o l e => g.lean m hF p o (l.imp id (Or.imp id (Or.imp id fun z => (show False from z.2).elim))) e) fun _ _ => g.sqt
theorem Go.repT (g : Go G Z H Z' H') {m : Fl} {ds : List D} {vs : List V} {F : List Addr} (h : RepL K (G.zt Z) H m ds vs F) (hF : ∀ p ∈ F, some p ≠ G.pot) : RepL K (G.zt Z') H' m ds vs F :=
  h.carry g.zle (fun _ z => z) (fun _ _ z => z) (fun _ z => z) (fun p o l e => g.lean m hF p o l e) fun _ _ => g.sqt

/-! ## things that an expression has given -/
def topBor : D → Bool
  | .lst .bor _ => true
  | .dic .bor _ => true
  | _ => false
def topOwn : D → Bool
  | .lst .own _ => true
  | .dic .own _ => true
  | _ => false
def Tmp (K : PySem.W.Frag) (G : Gh) (Z : Addr → Prop) (H : Hp) (d : D) (v : V) (F : List Addr) : Prop :=
  (topBor d = true ∧ F = [] ∧ RepL K (G.zt Z) H .own [d] [v] []) ∨ (topBor d = false ∧ RepL K (G.zs Z) H .own [d] [v] F)
theorem RepL.toT {m : Fl} {ds : List D} {vs : List V} {F : List Addr} (h : RepL K (G.zs Z) H m ds vs F) : RepL K (G.zt Z) H m ds vs F :=
  h.carry (fun _ z => z) (fun _ z => z) (fun _ _ z => z.elim) (fun _ z => z) (fun _ _ _ e => e) fun _ _ e => e
theorem Tmp.t {d : D} {v : V} {F : List Addr} (h : Tmp K G Z H d v F) : RepL K (G.zt Z) H .own [d] [v] F := by
  rcases h with ⟨_, rfl, h⟩ | ⟨_, h⟩
  · exact h
  · exact h.toT
theorem Tmp.go {d : D} {v : V} {F : List Addr} (h : Tmp K G Z H d v F) (g : Go G Z H Z' H') (hF : ∀ p ∈ F, some p ≠ G.pot) : Tmp K G Z' H' d v F := by
  rcases h with ⟨a, rfl, h⟩ | ⟨a, h⟩
  · exact .inl ⟨a, rfl, g.repT h hF⟩
  · exact .inr ⟨a, g.repS h hF⟩
inductive TmpL (K : PySem.W.Frag) (G : Gh) (Z : Addr → Prop) (H : Hp) : List D → List V → List Addr → Prop
  | nil : TmpL K G Z H [] [] []
  | cons {d ds v vs F1 F2} : Tmp K G Z H d v F1 → TmpL K G Z H ds vs F2 → TmpL K G Z H (d :: ds) (v :: vs) (F1 ++ F2)
theorem TmpL.go {ds : List D} {vs : List V} {F : List Addr} (h : TmpL K G Z H ds vs F) (g : Go G Z H Z' H') : (∀ p ∈ F, some p ≠ G.pot) → TmpL K G Z' H' ds vs F := by
  induction h with
  | nil => intro _; exact .nil
  | cons h _ ih => intro hF; exact .cons (h.go g fun p hp => hF p (List.mem_append_left _ hp)) (ih fun p hp => hF p (List.mem_append_right _ hp))
theorem TmpL.t {ds : List D} {vs : List V} {F : List Addr} (h : TmpL K G Z H ds vs F) : RepL K (G.zt Z) H .own ds vs F := by
  induction h with
  | nil => exact .nil
  | cons h _ ih => exact RepL.cons1 h.t ih
theorem TmpL.len {ds : List D} {vs : List V} {F : List Addr} (h : TmpL K G Z H ds vs F) : ds.length = vs.length := h.t.len
/-- addresses that are new since H, nobody else's -/
structure New (G : Gh) (H : Hp) (Z' : Addr → Prop) (F : List Addr) : Prop where
  new : ∀ p ∈ F, H p = none ∧ ¬ Z' p ∧ some p ≠ G.pot
  nd : F.Nodup
theorem New.nil : New G H Z [] := ⟨fun _ h => (nomatch h), .nil⟩
structure ExOut (K : PySem.W.Frag) (G : Gh) (Z : Addr → Prop) (H : Hp) (d : D) (Z' : Addr → Prop) (v : V) (H' : Hp) (F : List Addr) : Prop where
  go : Go G Z H Z' H'
  tmp : Tmp K G Z' H' d v F
  new : New G H Z' F
structure ArOut (K : PySem.W.Frag) (G : Gh) (Z : Addr → Prop) (H : Hp) (ds : List D) (Z' : Addr → Prop) (vs : List V) (H' : Hp) (F : List Addr) : Prop where
  go : Go G Z H Z' H'
  tmp : TmpL K G Z' H' ds vs F
  new : New G H Z' F
/-- what was new stays so -/
theorem New.go {F : List Addr} (h : New G H Z1 F) (g : Go G Z1 H1 Z2 H2) (hf : ∀ p ∈ F, H1 p ≠ none) : New G H Z2 F :=
  ⟨fun p hp => ⟨(h.new p hp).1, fun z => (g.znew p z).elim (h.new p hp).2.1 (hf p hp), (h.new p hp).2.2⟩, h.nd⟩
theorem New.back {F : List Addr} (h : New G H1 Z2 F) (g : Grow G.pot H H1) : New G H Z2 F :=
  ⟨fun p hp => ⟨g.back (h.new p hp).2.2 (h.new p hp).1, (h.new p hp).2⟩, h.nd⟩
theorem New.app {F1 F2 : List Addr} (h1 : New G H Z2 F1) (h2 : New G H1 Z2 F2) (g : Grow G.pot H H1) (hf : ∀ p ∈ F1, H1 p ≠ none) : New G H Z2 (F1 ++ F2) where
  new := fun p hp => (List.mem_append.mp hp).elim (h1.new p) ((h2.back g).new p)
  nd := List.nodup_append.mpr ⟨h1.nd, h2.nd, fun a ha b hb e => hf a ha (by rw [e]; exact (h2.new b hb).1)⟩
theorem Tmp.known {d : D} {v : V} {F : List Addr} (h : Tmp K G Z H d v F) : ∀ p ∈ F, H p ≠ none := fun p hp => by
  obtain ⟨o, e⟩ := h.t.fp p hp
  rw [e]; simp
theorem TmpL.known {ds : List D} {vs : List V} {F : List Addr} (h : TmpL K G Z H ds vs F) : ∀ p ∈ F, H p ≠ none := fun p hp => by
  obtain ⟨o, e⟩ := h.t.fp p hp
  rw [e]; simp

/-! ## the slots -/
structure StF (K : PySem.W.Frag) (G : Gh) (Z : Addr → Prop) (env : Env) (σ : L2.St) (H : Hp) (Fs : Nat → List Addr) : Prop where
  len : σ.length = env.length
  at_ : ∀ i d, env[i]? = some (some d) → ∃ v, σ[i]? = some (some v) ∧ RepL K (G.zs Z) H .own [d] [v] (Fs i)
  nd : ∀ i, (Fs i).Nodup
  one : ∀ i j p, p ∈ Fs i → p ∈ Fs j → i = j
  new : ∀ i p, p ∈ Fs i → G.H0 p = none ∧ ¬ Z p ∧ some p ≠ G.pot ∧ H p ≠ none
  zf : ∀ p, Z p → H p ≠ none ∧ some p ≠ G.pot
  grow : Grow G.pot G.H0 H
  pot : ∀ p, G.pot = some p → PotObj (H p)
  pot0 : ∀ p, G.pot = some p → PotObj (G.H0 p)
  z0 : ∀ p, G.Z0 p → Z p ∧ G.H0 p ≠ none ∧ some p ≠ G.pot
  zn : ∀ p, Z p → G.Z0 p ∨ G.H0 p = none
def StRel (K : PySem.W.Frag) (G : Gh) (Z : Addr → Prop) (env : Env) (σ : L2.St) (H : Hp) : Prop := ∃ Fs, StF K G Z env σ H Fs
/-- what is frozen, what are tuples: that stays from one statement to the next -/
structure Keep (K : PySem.W.Frag) (G : Gh) (Z : Addr → Prop) (H : Hp) (Z' : Addr → Prop) (H' : Hp) : Prop where
  zle : ∀ p, Z p → Z' p
  kz : ∀ p o, Z p → H p = some o → H' p = some o
  kt : ∀ p ws, TupX K H p ws → TupX K H' p ws
theorem Keep.refl : Keep K G Z H Z H := ⟨fun _ h => h, fun _ _ _ h => h, fun _ _ h => h⟩
theorem Keep.trans (a : Keep K G Z H Z1 H1) (b : Keep K G Z1 H1 Z2 H2) : Keep K G Z H Z2 H2 :=
  ⟨fun p h => b.zle p (a.zle p h), fun p o z h => b.kz p o (a.zle p z) (a.kz p o z h), fun p ws h => b.kt p ws (a.kt p ws h)⟩
theorem Go.keep (g : Go G Z H Z' H') : Keep K G Z H Z' H' := ⟨g.zle, fun p o z h => g.grow.keep p o (g.zA p z).2 h, fun _ _ => g.sqt⟩
section
variable {env : Env} {σ : L2.St} {Fs : Nat → List Addr}
theorem StRel.goR (S : StRel K G Z env σ H) : Go G Z H Z H := let ⟨_, S⟩ := S; Go.refl S.pot S.zf
theorem StF.go (S : StF K G Z env σ H Fs) (g : Go G Z H Z' H') : StF K G Z' env σ H' Fs where
  len := S.len
  at_ := fun i d e => let ⟨v, a, b⟩ := S.at_ i d e; ⟨v, a, g.repS b fun p hp => (S.new i p hp).2.2.1⟩
  nd := S.nd
  one := S.one
  new := fun i p hp => by
    obtain ⟨a, b, c, e⟩ := S.new i p hp
    refine ⟨a, fun z => (g.znew p z).elim b e, c, ?_⟩
    cases q : H p with
    | none => exact absurd q e
    | some o => rw [g.grow.keep p o c q]; simp
  zf := g.zB
  grow := S.grow.trans g.grow
  pot := g.potB
  pot0 := S.pot0
  z0 := fun p h => ⟨g.zle p (S.z0 p h).1, (S.z0 p h).2⟩
  zn := fun p h => (g.znew p h).elim (S.zn p) fun n => .inr (S.grow.back (g.zB p h).2 n)
theorem StRel.go (S : StRel K G Z env σ H) (g : Go G Z H Z' H') : StRel K G Z' env σ H' := let ⟨Fs, S⟩ := S; ⟨Fs, S.go g⟩
/-- from the call's entry to here -/
theorem StF.all (S : StF K G Z env σ H Fs) : Go G G.Z0 G.H0 Z H := ⟨S.grow, S.pot0, S.pot, fun p h => (S.z0 p h).1, S.zn, fun p h => (S.z0 p h).2, S.zf⟩
/-- a slot stored -/
theorem StF.put (S : StF K G Z env σ H Fs) {i : Nat} {d : D} {v : V} {F : List Addr} (r : RepL K (G.zs Z) H .own [d] [v] F) (nd : F.Nodup)
    (n : ∀ p ∈ F, G.H0 p = none ∧ ¬ Z p ∧ some p ≠ G.pot) (ds : ∀ j p, j ≠ i → p ∈ F → p ∉ Fs j) : StF K G Z (env.set i (some d)) (σ.set i (some v)) H (fun j => if j = i then F else Fs j) where
  len := by simp [S.len]
  at_ := fun j d' e => by
    by_cases hj : j = i
    · subst hj
      rw [List.getElem?_set] at e
      simp only [if_true] at e
      split at e
      · rename_i hl
        injection e with e
        injection e with e
        subst e
        exact ⟨v, by rw [List.getElem?_set, S.len]; simp [hl], by simpa using r⟩
      · cases e
    · rw [List.getElem?_set_ne (Ne.symm hj)] at e
      obtain ⟨w, a, b⟩ := S.at_ j d' e
      exact ⟨w, by rw [List.getElem?_set_ne (Ne.symm hj)]; exact a, by simpa [hj] using b⟩
  nd := fun j => by by_cases hj : j = i <;> simp [hj, nd, S.nd]
  one := fun j k p a b => by
    by_cases hj : j = i <;> by_cases hk : k = i
    · rw [hj, hk]
    · simp only [hj, if_true] at a
      simp only [hk, if_false] at b
      exact absurd b (ds k p hk a)
    · simp only [hk, if_true] at b
      simp only [hj, if_false] at a
      exact absurd a (ds j p hj b)
    · simp only [hj, if_false] at a
      simp only [hk, if_false] at b
      exact S.one j k p a b
  new := fun j p a => by
    by_cases hj : j = i
    · simp only [hj, if_true] at a
      obtain ⟨o, e⟩ := r.fp p a
      obtain ⟨x, y, z⟩ := n p a
      exact ⟨x, y, z, by rw [e]; simp⟩
    · simp only [hj, if_false] at a
      exact S.new j p a
  zf := S.zf
  grow := S.grow
  pot := S.pot
  pot0 := S.pot0
  z0 := S.z0
  zn := S.zn
theorem StRel.put (S : StRel K G Z env σ H) {i : Nat} {d : D} {v : V} {F : List Addr} (e : ExOut K G Z H d Z' v H' F) (nb : topBor d = false) : StRel K G Z' (env.set i (some d)) (σ.set i (some v)) H' := by
  obtain ⟨Fs, S⟩ := S
  have S1 := S.go e.go
  rcases e.tmp with ⟨a, _⟩ | ⟨_, r⟩
  · rw [a] at nb; cases nb
  · exact ⟨_, S1.put r e.new.nd (fun p hp => ⟨S.grow.back (e.new.new p hp).2.2 (e.new.new p hp).1, (e.new.new p hp).2⟩) fun j p _ hp hj => (S.new j p hj).2.2.2 (e.new.new p hp).1⟩
/-- a slot's own list, and what becomes of it -/
theorem StF.mut (S : StF K G Z env σ H Fs) {i : Nat} {xs : List D} (e : env[i]? = some (some (.lst .own xs))) :
    ∃ p ws F', σ[i]? = some (some (.ref p)) ∧ H p = some (.lst ws) ∧ RepL K (G.zs Z) H .own xs ws F' ∧ Fs i = p :: (F' ++ []) ∧
      ∀ Z1 H1 ys us F'', Go G Z H Z1 H1 → RepL K (G.zs Z1) H1 .own ys us F'' → (∀ q ∈ F'', q ∈ F' ∨ (H q = none ∧ ¬ Z1 q ∧ some q ≠ G.pot)) → F''.Nodup →
        StF K G Z1 (env.set i (some (.lst .own ys))) σ (upd H1 p (.lst us)) (fun j => if j = i then p :: (F'' ++ []) else Fs j) ∧ Keep K G Z H Z1 (upd H1 p (.lst us)) := by
  obtain ⟨v, ev, r⟩ := S.at_ i _ e
  generalize eF0 : Fs i = Fi at r
  cases r with
  | sc e1 _ => simp [scV] at e1
  | shr e0 e1 => 
    have : (some Fl.own) = some _ := e0
    cases this
    exact e1.elim
  | @own m f p ws xs ds vs F2 F' e1 e2 h1 h =>
    cases h
    have eF := eF0.symm
    have hp : p ∈ Fs i := by rw [← eF]; exact List.mem_cons_self
    have hF' : ∀ q ∈ F', q ∈ Fs i := fun q hq => by rw [← eF]; simp [hq]
    obtain ⟨pn0, pnz, pnp, pk⟩ := S.new i p hp
    refine ⟨p, ws, F', ev, e2, h1, by first | rfl | exact eF.symm, fun Z1 H1 ys us F'' g r hq nd => ?_⟩
    have S1 := S.go g
    have pnz1 : ¬ Z1 p := fun z => (g.znew p z).elim pnz pk
    have hnF : p ∉ F'' := fun hp' => by
      rcases hq p hp' with z | z
      · have := S.nd i
        rw [← eF] at this
        exact (List.nodup_cons.mp this).1 (by simp [z])
      · exact pk z.1
    -- nothing but the slot leans on p
    have ne : ∀ q, Z1 q ∨ G.za q → q ≠ p := fun q h z => by
      subst z
      exact h.elim pnz1 fun a => a.1 pn0
    have H1p : H1 p = some (.lst ws) := g.grow.keep p _ pnp e2
    have sqt : ∀ q zs, TupX K H1 q zs → TupX K (upd H1 p (.lst us)) q zs := fun q zs h => by
      rcases h with ⟨o, n, h⟩ | h
      · exact .inl ⟨o, n, by rw [upd_ne (fun z => by subst z; rw [H1p] at h; cases h)]; exact h⟩
      · exact .inr h
    have carry : ∀ {m ds vs F}, RepL K (G.zs Z1) H1 m ds vs F → p ∉ F → RepL K (G.zs Z1) (upd H1 p (.lst us)) m ds vs F := fun h hn =>
      h.carry (fun _ z => z) (fun _ z => z) (fun _ _ z => z) (fun _ z => z) (fun q o l e => by
        rw [upd_ne]
        · exact e
        · rintro rfl
          rcases l with l | l | l | l
          · exact hn l
          · exact ne _ (.inl l) rfl
          · exact ne _ (.inr l) rfl
          · exact l.2) sqt
    constructor
    · refine ⟨by simp [S.len], fun j d e' => ?_, fun j => ?_, fun j k q a b => ?_, fun j q a => ?_, fun q z => ?_, ⟨fun q o n h => ?_⟩, fun q eq => ?_, S.pot0, S1.z0, S1.zn⟩
      · by_cases hj : j = i
        · subst hj
          have hl : j < env.length := (List.getElem?_eq_some_iff.mp e).1
          rw [List.getElem?_set] at e'
          simp only [if_true, hl] at e'
          injection e' with e'
          injection e' with e'
          subst e'
          refine ⟨.ref p, ev, ?_⟩
          simp only [if_true]
          exact .own rfl upd_same (carry r hnF) .nil
        · rw [List.getElem?_set_ne (Ne.symm hj)] at e'
          obtain ⟨w, a, b⟩ := S1.at_ j d e'
          refine ⟨w, a, ?_⟩
          simp only [hj, if_false]
          exact carry b fun hpj => hj (S.one j i p hpj hp)
      · by_cases hj : j = i
        · simp only [hj, if_true, List.append_nil]
          exact List.nodup_cons.mpr ⟨hnF, nd⟩
        · simp only [hj, if_false]
          exact S.nd j
      · have key : ∀ k q, k ≠ i → q ∈ p :: (F'' ++ []) → q ∉ Fs k := fun k q hk hq' hk' => by
          rcases List.mem_cons.mp hq' with rfl | hq'
          · exact hk (S.one k i _ hk' hp)
          · rw [List.append_nil] at hq'
            rcases hq q hq' with z | z
            · exact hk (S.one k i _ hk' (hF' q z))
            · exact (S.new k q hk').2.2.2 z.1
        by_cases hj : j = i <;> by_cases hk : k = i
        · rw [hj, hk]
        · simp only [hj, if_true] at a
          simp only [hk, if_false] at b
          exact absurd b (key k q hk a)
        · simp only [hk, if_true] at b
          simp only [hj, if_false] at a
          exact absurd a (key j q hj b)
        · simp only [hj, if_false] at a
          simp only [hk, if_false] at b
          exact S.one j k q a b
      · by_cases hj : j = i
        · simp only [hj, if_true] at a
          rcases List.mem_cons.mp a with rfl | a
          · exact ⟨pn0, pnz1, pnp, by rw [upd_same]; simp⟩
          · rw [List.append_nil] at a
            obtain ⟨o, eo⟩ := r.fp q a
            have hne : q ≠ p := fun z => hnF (z ▸ a)
            rcases hq q a with z | z
            · have := S1.new i q (hF' q z)
              exact ⟨this.1, this.2.1, this.2.2.1, by rw [upd_ne hne, eo]; simp⟩
            · exact ⟨S.grow.back z.2.2 z.1, z.2.1, z.2.2, by rw [upd_ne hne, eo]; simp⟩
        · simp only [hj, if_false] at a
          have := S1.new j q a
          exact ⟨this.1, this.2.1, this.2.2.1, by rw [upd_ne (fun z => hj (S.one j i q a (by rw [z]; exact hp)))]; exact this.2.2.2⟩
      · rw [upd_ne (ne q (.inl z))]
        exact S1.zf q z
      · rw [upd_ne (fun z => by subst z; rw [pn0] at h; cases h)]
        exact S1.grow.keep q o n h
      · rw [upd_ne (fun z => by subst z; exact pnp eq.symm)]
        exact S1.pot q eq
    · refine ⟨g.zle, fun q o z h => ?_, fun q zs h => sqt q zs (g.sqt h)⟩
      rw [upd_ne (ne q (.inl (g.zle q z)))]
      exact g.grow.keep q o (g.zA q z).2 h
end
end

/-! ## readings -/
def RdE (K : PySem.W.Frag) (G : Gh) (e : Env → T D) : TE := fun σ H Q => ∃ Z env, StRel K G Z env σ H ∧ (e env).Holds fun d => ∀ Z' v H' F, ExOut K G Z H d Z' v H' F → Q v H'
def RdT (K : PySem.W.Frag) (G : Gh) (c : Env → T Bool) : TT := fun σ H Q => ∃ Z env, StRel K G Z env σ H ∧ (c env).Holds fun b => ∀ Z' H', Go G Z H Z' H' → Q b H'
def RdA (K : PySem.W.Frag) (G : Gh) (e : Env → T (List D)) : TA := fun σ H Q => ∃ Z env, StRel K G Z env σ H ∧ (e env).Holds fun ds => ∀ Z' vs H' F, ArOut K G Z H ds Z' vs H' F → Q vs H'
theorem PE.imp {X : Cx} {e : Expr} {t t' : TE} (h : PE X e t) (i : ∀ σ H Q, t' σ H Q → t σ H Q) : PE X e t' := ⟨fun pins s σ H Q I q => h.run pins s σ H Q I (i σ H Q q)⟩
theorem PT.imp {X : Cx} {e : Expr} {t t' : TT} (h : PT X e t) (i : ∀ σ H Q, t' σ H Q → t σ H Q) : PT X e t' := ⟨fun pins s σ H Q I q => h.run pins s σ H Q I (i σ H Q q)⟩
theorem PW.imp {X : Cx} {e : Expr} {t t' : TT} (h : PW X e t) (i : ∀ σ H Q, t' σ H Q → t σ H Q) : PW X e t' := ⟨fun wh pins s σ H Q I q => h.run wh pins s σ H Q I (i σ H Q q)⟩
theorem PA.imp {X : Cx} {es : List Expr} {t t' : TA} (h : PA X es t) (i : ∀ σ H Q, t' σ H Q → t σ H Q) : PA X es t' := ⟨fun pos pins s σ H Q I q => h.run pos pins s σ H Q I (i σ H Q q)⟩
theorem PS.imp {X : Cx} {st : Stmt} {t t' : TS} (h : PS X st t) (i : ∀ D σ H, t' D σ H → t D σ H) : PS X st t' := ⟨fun pins s σ H D I q => h.run pins s σ H D I (i D σ H q)⟩
theorem PSs.imp {X : Cx} {st : List Stmt} {t t' : TS} (h : PSs X st t) (i : ∀ D σ H, t' D σ H → t D σ H) : PSs X st t' := ⟨fun pins s σ H D I q => h.run pins s σ H D I (i D σ H q)⟩
theorem PI.imp {X : Cx} {tg it : Expr} {t t' : TI} (h : PI X tg it t) (i : ∀ σ H R, t' σ H R → t σ H R) : PI X tg it t' := ⟨fun pins s σ H R I q => h.run pins s σ H R I (i σ H R q)⟩
end Dn

set_option Elab.async false
set_option linter.all false
set_option maxRecDepth 100000
namespace Dn
open PySem PySem.Spec PyProof.Rows L2

/-! ## operations upon what has been given -/
structure OpOut (K : PySem.W.Frag) (G : Gh) (Z : Addr → Prop) (H : Hp) (Fin : List Addr) (d : D) (Z' : Addr → Prop) (v : V) (H' : Hp) (F : List Addr) : Prop where
  grow : Grow G.pot H H'
  potB : ∀ p, G.pot = some p → PotObj (H' p)
  zle : ∀ p, Z p → Z' p
  znew : ∀ p, Z' p → Z p ∨ H p = none ∨ p ∈ Fin
  zB : ∀ p, Z' p → H' p ≠ none ∧ some p ≠ G.pot
  tmp : Tmp K G Z' H' d v F
  own : ∀ p ∈ F, (H p = none ∨ p ∈ Fin) ∧ ¬ Z' p ∧ some p ≠ G.pot
  nd : F.Nodup
/-- what stands ahead of an operation -/
structure Pre (K : PySem.W.Frag) (G : Gh) (Z : Addr → Prop) (H : Hp) (F : List Addr) : Prop where
  pot : ∀ p, G.pot = some p → PotObj (H p)
  zf : ∀ p, Z p → H p ≠ none ∧ some p ≠ G.pot
  own : ∀ p ∈ F, ¬ Z p ∧ some p ≠ G.pot
  nd : F.Nodup
  gr : Grow G.pot G.H0 H
section
variable {K : PySem.W.Frag} {G : Gh} {Z Z' Z0 Z1 Z2 : Addr → Prop} {H H' H0 H1 H2 : Hp} {Fin F F1 F2 : List Addr} {d : D} {v : V}
theorem OpOut.ex (o : OpOut K G Z H Fin d Z' v H' F) (g : Go G Z0 H0 Z H) (n : New G H0 Z Fin) : ExOut K G Z0 H0 d Z' v H' F where
  go := ⟨g.grow.trans o.grow, g.potA, o.potB, fun p h => o.zle p (g.zle p h), fun p h => (o.znew p h).elim (g.znew p) fun h' => .inr (h'.elim (fun z => g.grow.back (o.zB p h).2 z) fun z => (n.new p z).1), g.zA, o.zB⟩
  tmp := o.tmp
  new := ⟨fun p hp => ⟨(o.own p hp).1.elim (fun z => g.grow.back (o.own p hp).2.2 z) fun z => (n.new p z).1, (o.own p hp).2⟩, o.nd⟩
theorem Pre.of {env : Env} {σ : L2.St} (S : StRel K G Z0 env σ H0) (g : Go G Z0 H0 Z H) (n : New G H0 Z F) : Pre K G Z H F := ⟨g.potB, g.zB, fun p hp => (n.new p hp).2, n.nd, let ⟨_, S⟩ := S; S.grow.trans g.grow⟩
/-- the heap as it was, nothing moved -/
theorem OpOut.same (p : Pre K G Z H Fin) (t : Tmp K G Z H d v []) : OpOut K G Z H Fin d Z v H [] :=
  ⟨⟨fun _ _ _ h => h⟩, p.pot, fun _ h => h, fun _ h => .inl h, p.zf, t, fun _ h => (nomatch h), .nil⟩
/-- the heap as it was, some of it handed on -/
theorem OpOut.part (p : Pre K G Z H Fin) (t : Tmp K G Z H d v F) (s : F.Sublist Fin) : OpOut K G Z H Fin d Z v H F :=
  ⟨⟨fun _ _ _ h => h⟩, p.pot, fun _ h => h, fun _ h => .inl h, p.zf, t, fun q h => ⟨.inr (s.subset h), p.own q (s.subset h)⟩, p.nd.sublist s⟩
theorem tmp_sc (e : scV d = some v) : Tmp K G Z H d v [] := .inr ⟨by cases d <;> simp_all [scV, topBor], .sc e .nil⟩
theorem OpOut.sc (p : Pre K G Z H Fin) (e : scV d = some v) : OpOut K G Z H Fin d Z v H [] := .same p (tmp_sc e)
theorem OpOut.int (p : Pre K G Z H Fin) (i : Int) : OpOut K G Z H Fin (.int i) Z (.int i) H [] := .sc p rfl
theorem OpOut.bl (p : Pre K G Z H Fin) (i : Bool) : OpOut K G Z H Fin (.bl i) Z (.bl i) H [] := .sc p rfl
theorem TmpL.s {ds : List D} {vs : List V} (h : TmpL K G Z H ds vs F) : (ds.any topBor) = false → RepL K (G.zs Z) H .own ds vs F := by
  induction h with
  | nil => intro _; exact .nil
  | cons h _ ih =>
    intro e
    rw [List.any_cons, Bool.or_eq_false_iff] at e
    rcases h with ⟨a, _⟩ | ⟨_, h⟩
    · rw [a] at e; cases e.1
    · exact RepL.cons1 h (ih e.2)
/-- frozen for ever -/
theorem RepL.freeze {ds : List D} {vs : List V} (h : RepL K (G.zs Z) H .own ds vs F) : RepL K (G.zs fun p => Z p ∨ p ∈ F) H .frz ds vs [] :=
  h.demote (by decide) (fun _ => .inl rfl) (fun _ _ z => z) (fun _ z => .inl z) (fun _ z => z) (fun _ z => z) (fun p o _ hp => .inr hp) (fun n => absurd rfl n)
theorem RepL.lend {ds : List D} {vs : List V} {m : Fl} (h : RepL K (G.zt Z) H m ds vs F) (pr : Pre K G Z H F) : RepL K (G.zt Z) H .bor ds vs [] :=
  h.demote (by decide) (fun z => nomatch z) (fun z => nomatch z) (fun _ z => z) (fun _ z => z) (fun _ z => z) (fun p o _ hp => (pr.own p hp).2) (fun _ p o _ hp => by
    rcases hp with z | z | z
    · exact (pr.zf p z).2
    · exact z.2
    · exact z)
theorem upd_pot {p : Addr} {o : HO} (hp : ∀ q, G.pot = some q → PotObj (H q)) (n : H p = none) : ∀ q, G.pot = some q → PotObj (upd H p o q) := fun q e => by
  obtain ⟨a, b, h, r⟩ := hp q e
  exact ⟨a, b, by rw [upd_ne (ne_of_none h n)]; exact h, r⟩
theorem ne_pot {p : Addr} (hp : ∀ q, G.pot = some q → PotObj (H q)) (n : H p = none) : some p ≠ G.pot := fun e => by
  obtain ⟨a, b, h, _⟩ := hp p e.symm
  rw [n] at h; cases h
theorem upd_ne_none {p q : Addr} {o : HO} (h : H q ≠ none) : upd H p o q ≠ none := by
  by_cases e : q = p
  · rw [e, upd_same]; simp
  · rw [upd_ne e]; exact h
theorem Go.upd {p : Addr} {o : HO} (pr : Pre K G Z H Fin) (n : H p = none) : Go G Z H Z (upd H p o) := Go.new pr.pot pr.zf n
theorem Go.more (pr : Pre K G Z H F) (hk : ∀ p ∈ F, H p ≠ none) : (∀ p, G.pot = some p → PotObj (H p)) ∧ ∀ p, (Z p ∨ p ∈ F) → H p ≠ none ∧ some p ≠ G.pot :=
  ⟨pr.pot, fun p h => h.elim (pr.zf p) fun z => ⟨hk p z, (pr.own p z).2⟩⟩
/-- a new tuple of what has been given: that is frozen -/
theorem OpOut.tup {ds : List D} {vs : List V} {p : Addr} (pr : Pre K G Z H F) (t : TmpL K G Z H ds vs F) (nb : (ds.any topBor) = false) {o : Obj} (ho : NewT o) (n : H p = none) :
    OpOut K G Z H F (.tup ds) (fun q => Z q ∨ q ∈ F) (.ref p) (upd H p (.frz o (.tup vs))) [] where
  grow := .mk1 n
  potB := upd_pot pr.pot n
  zle := fun _ h => .inl h
  znew := fun q h => h.elim .inl fun z => .inr (.inr z)
  zB := fun q h => ⟨upd_ne_none (h.elim (fun z => (pr.zf q z).1) (t.known q)), h.elim (fun z => (pr.zf q z).2) fun z => (pr.own q z).2⟩
  tmp := .inr ⟨rfl, .tup (.new ho) ((Go.new (G := G) (Z := fun q => Z q ∨ q ∈ F) pr.pot (fun q h => ⟨h.elim (fun z => (pr.zf q z).1) (t.known q), h.elim (fun z => (pr.zf q z).2) fun z => (pr.own q z).2⟩) n).repS (t.s nb).freeze (fun _ z => nomatch z)) .nil⟩
  own := fun _ h => nomatch h
  nd := .nil
/-- a new list, its items owned -/
theorem OpOut.lst {ds : List D} {vs : List V} {p : Addr} {F' : List Addr} (pr : Pre K G Z H F) (t : RepL K (G.zs Z) H .own ds vs F') (s : F'.Sublist F) (n : H p = none) :
    OpOut K G Z H F (.lst .own ds) Z (.ref p) (upd H p (.lst vs)) (p :: (F' ++ [])) where
  grow := .mk1 n
  potB := upd_pot pr.pot n
  zle := fun _ h => h
  znew := fun q h => .inl h
  zB := fun q h => ⟨upd_ne_none (pr.zf q h).1, (pr.zf q h).2⟩
  tmp := .inr ⟨rfl, .own rfl upd_same ((Go.new pr.pot pr.zf n).repS t fun q hq => (pr.own q (s.subset hq)).2) .nil⟩
  own := fun q h => by
    rcases List.mem_cons.mp h with rfl | h
    · exact ⟨.inl n, fun z => (pr.zf _ z).1 n, ne_pot pr.pot n⟩
    · rw [List.append_nil] at h
      exact ⟨.inr (s.subset h), pr.own q (s.subset h)⟩
  nd := by
    rw [List.append_nil]
    refine List.nodup_cons.mpr ⟨fun h => ?_, pr.nd.sublist s⟩
    obtain ⟨o, e⟩ := t.fp p h
    rw [n] at e
    cases e
/-- a new list with borrowed items -/
theorem OpOut.lstB {ds : List D} {vs : List V} {p : Addr} (pr : Pre K G Z H F) (t : RepL K (G.zt Z) H .bor ds vs []) (n : H p = none) :
    OpOut K G Z H F (.lst .bor ds) Z (.ref p) (upd H p (.lst vs)) [] where
  grow := .mk1 n
  potB := upd_pot pr.pot n
  zle := fun _ h => h
  znew := fun q h => .inl h
  zB := fun q h => ⟨upd_ne_none (pr.zf q h).1, (pr.zf q h).2⟩
  tmp := .inl ⟨rfl, rfl, .shr rfl (ne_pot pr.pot n) upd_same ((Go.new pr.pot pr.zf n).repT t fun _ z => nomatch z) .nil⟩
  own := fun _ h => nomatch h
  nd := .nil
end

/-- an operation of two, of several, by values, and what it does to data -/
def Op1 (K : PySem.W.Frag) (G : Gh) (r : V → Hp → VK → Prop) (o : D → T D) : Prop := ∀ Z H d1 v1 F1 Q, Tmp K G Z H d1 v1 F1 → Pre K G Z H F1 →
  (o d1).Holds (fun d => ∀ Z' v H' F, OpOut K G Z H F1 d Z' v H' F → Q v H') → r v1 H Q
def Op2 (K : PySem.W.Frag) (G : Gh) (r : V → V → Hp → VK → Prop) (o : D → D → T D) : Prop := ∀ Z H d1 v1 F1 d2 v2 F2 Q, Tmp K G Z H d1 v1 F1 → Tmp K G Z H d2 v2 F2 → Pre K G Z H (F1 ++ F2) →
  (o d1 d2).Holds (fun d => ∀ Z' v H' F, OpOut K G Z H (F1 ++ F2) d Z' v H' F → Q v H') → r v1 v2 H Q
def OpN (K : PySem.W.Frag) (G : Gh) (r : List V → Hp → VK → Prop) (o : List D → T D) : Prop := ∀ Z H ds vs F0 Q, TmpL K G Z H ds vs F0 → Pre K G Z H F0 →
  (o ds).Holds (fun d => ∀ Z' v H' F, OpOut K G Z H F0 d Z' v H' F → Q v H') → r vs H Q
section
variable {K : PySem.W.Frag} {G : Gh} {σ : L2.St} {H : Hp} {Q : VK} {a b : Env → T D}
def un1 (o : D → T D) (a : Env → T D) : Env → T D := fun env => (a env).bind o
def bin2 (o : D → D → T D) (a b : Env → T D) : Env → T D := fun env => (a env).bind fun x => (b env).bind fun y => o x y
def argsN (a : Env → T D) (r : Env → T (List D)) : Env → T (List D) := fun env => (a env).bind fun x => (r env).bind fun ys => .ret (x :: ys)
def args0 : Env → T (List D) := fun _ => .ret []
def callN (o : List D → T D) (r : Env → T (List D)) : Env → T D := fun env => (r env).bind o
theorem rd1 {r : V → Hp → VK → Prop} {o : D → T D} (ho : Op1 K G r o) (h : RdE K G (un1 o a) σ H Q) : RdE K G a σ H fun x H1 => r x H1 Q := by
  obtain ⟨Z, env, S, h⟩ := h
  refine ⟨Z, env, S, (T.holds_bind h).mono fun d h Z1 v1 H1 F1 e => ho Z1 H1 d v1 F1 Q e.tmp (.of S e.go e.new) (h.mono fun d2 h Z' v H' F o => h Z' v H' F (o.ex e.go e.new))⟩
theorem rd2 {r : V → V → Hp → VK → Prop} {o : D → D → T D} (ho : Op2 K G r o) (h : RdE K G (bin2 o a b) σ H Q) : RdE K G a σ H fun x H1 => RdE K G b σ H1 fun y H2 => r x y H2 Q := by
  obtain ⟨Z, env, S, h⟩ := h
  refine ⟨Z, env, S, (T.holds_bind h).mono fun d1 h Z1 v1 H1 F1 e1 => ⟨Z1, env, S.go e1.go, (T.holds_bind h).mono fun d2 h Z2 v2 H2 F2 e2 => ?_⟩⟩
  have n1 := e1.new.go e2.go e1.tmp.known
  have n := n1.app e2.new e1.go.grow e1.tmp.known
  have g := e1.go.trans e2.go
  exact ho Z2 H2 d1 v1 F1 d2 v2 F2 Q (e1.tmp.go e2.go fun p hp => (e1.new.new p hp).2.2) e2.tmp (.of S g n) (h.mono fun d h Z' v H' F o => h Z' v H' F (o.ex g n))
theorem rdN {r : List V → Hp → VK → Prop} {o : List D → T D} {ea : Env → T (List D)} (ho : OpN K G r o) (h : RdE K G (callN o ea) σ H Q) : RdA K G ea σ H fun vs H1 => r vs H1 Q := by
  obtain ⟨Z, env, S, h⟩ := h
  refine ⟨Z, env, S, (T.holds_bind h).mono fun d h Z1 v1 H1 F1 e => ho Z1 H1 d v1 F1 Q e.tmp (.of S e.go e.new) (h.mono fun d2 h Z' v H' F o => h Z' v H' F (o.ex e.go e.new))⟩
theorem rdA_nil {Q : List V → Hp → Prop} (h : RdA K G args0 σ H Q) : tNil σ H Q := by
  obtain ⟨Z, env, S, h⟩ := h
  exact h Z [] H [] ⟨S.goR, .nil, .nil⟩
theorem rdA_cons {Q : List V → Hp → Prop} {r : Env → T (List D)} (h : RdA K G (argsN a r) σ H Q) : RdE K G a σ H fun x H1 => RdA K G r σ H1 fun xs H2 => Q (x :: xs) H2 := by
  obtain ⟨Z, env, S, h⟩ := h
  refine ⟨Z, env, S, (T.holds_bind h).mono fun d1 h Z1 v1 H1 F1 e1 => ⟨Z1, env, S.go e1.go, (T.holds_bind h).mono fun ds h Z2 v2 H2 F2 e2 => ?_⟩⟩
  have n1 := e1.new.go e2.go e1.tmp.known
  exact h Z2 _ H2 (F1 ++ F2) ⟨e1.go.trans e2.go, .cons (e1.tmp.go e2.go fun p hp => (e1.new.new p hp).2.2) e2.tmp, n1.app e2.new e1.go.grow e1.tmp.known⟩
/-- a pure scalar -/
theorem rd_sc {d : D} {v : V} (e : scV d = some v) (h : RdE K G (fun _ => .ret d) σ H Q) : Q v H := by
  obtain ⟨Z, env, S, h⟩ := h
  exact h Z v H [] ⟨S.goR, tmp_sc e, .nil⟩
end

section
variable {X : Cx} {G : Gh} {e a b : Expr} {es : List Expr} {pos : Pos} {da db : Env → T D}
def con (d : D) : Env → T D := fun _ => .ret d
/-- a slot's thing, as it may be read -/
def brw : D → D
  | .lst .own xs => .lst .bor xs
  | .dic .own kvs => .dic .bor kvs
  | d => d
def var (i : Nat) : Env → T D := fun env => match env[i]? with
  | some (some d) => .ret (brw d)
  | _ => .fail
theorem ee_int {i j} : PE X (.Constant (.int i) j pos) (RdE X.K G (con (.int i))) := PE.imp pe_int fun _ _ _ h => rd_sc rfl h
theorem ee_bl {i j} : PE X (.Constant (.bool i) j pos) (RdE X.K G (con (.bl i))) := PE.imp pe_bl fun _ _ _ h => rd_sc rfl h
theorem ee_non {j} : PE X (.Constant .none j pos) (RdE X.K G (con .non)) := PE.imp pe_non fun _ _ _ h => rd_sc rfl h
theorem ee_str {x j} : PE X (.Constant (.str x) j pos) (RdE X.K G (con (.str x))) := PE.imp pe_str fun _ _ _ h => rd_sc rfl h
theorem tmp_brw {K : PySem.W.Frag} {Z : Addr → Prop} {H : Hp} {d : D} {v : V} {F : List Addr} (h : RepL K (G.zs Z) H .own [d] [v] F) (hF : ∀ p ∈ F, some p ≠ G.pot) (hz : ∀ p, Z p → some p ≠ G.pot) : Tmp K G Z H (brw d) v [] := by
  have lend : ∀ {ds vs F}, RepL K (G.zs Z) H .own ds vs F → (∀ p ∈ F, some p ≠ G.pot) → RepL K (G.zt Z) H .bor ds vs [] := fun h hF =>
    h.demote (by decide) (fun z => nomatch z) (fun z => nomatch z) (fun _ z => z) (fun _ z => z) (fun _ z => z) (fun p o _ hp => hF p hp) fun _ p o _ hp => by
      rcases hp with z | z | z
      · exact hz p z
      · exact z.2
      · exact z.elim
  cases h with
  | sc e h => cases h; exact tmp_sc (by cases d <;> simp_all [brw, scV])
  | pot e h => cases h; exact .inr ⟨rfl, .pot e .nil⟩
  | tup e h1 h => cases h; exact .inr ⟨rfl, .tup e h1 .nil⟩
  | own e1 e2 h1 h =>
    cases h
    obtain ⟨_, rfl⟩ := eff_own e1
    exact .inl ⟨rfl, rfl, .shr rfl (hF _ (by simp)) e2 (lend h1 fun p hp => hF p (by simp [hp])) .nil⟩
  | @shr m f g p ws xs ds vs F e0 e1 e2 h1 h =>
    cases h
    have e : f = g := Option.some.inj e0
    subst e
    cases f
    · exact e1.elim
    · exact .inr ⟨rfl, .shr e0 e1 e2 h1 .nil⟩
    · exact .inr ⟨rfl, .shr e0 e1 e2 h1 .nil⟩
    · exact e1.elim
  | down e1 e2 e3 h1 h =>
    cases h
    obtain ⟨_, rfl⟩ := eff_own e1
    exact .inl ⟨rfl, rfl, .dshr rfl (hF _ (by simp)) e2 e3 (lend h1 fun p hp => hF p (by simp [hp])) .nil⟩
  | @dshr m f g p o kvs kws ws ds vs F e0 e1 e2 e3 h1 h =>
    cases h
    have e : f = g := Option.some.inj e0
    subst e
    cases f
    · exact e1.elim
    · exact .inr ⟨rfl, .dshr e0 e1 e2 e3 h1 .nil⟩
    · exact .inr ⟨rfl, .dshr e0 e1 e2 e3 h1 .nil⟩
    · exact e1.elim
theorem ee_var {x : Str} (i : Nat) (hN : X.N[i]? = some x := by rfl) (hv : Vis X.env.scope x := by first | exact Or.inl rfl | exact Or.inr (Or.inl rfl) | exact Or.inr (Or.inr rfl)) (hd : (x == ("__debug__" : Str)) = false := by decide)
    (hcd : (x == ("__classdict__" : Str)) = false := by decide) : PE X (.Name x pos) (RdE X.K G (var i)) := PE.imp (pe_var hN hv hd hcd) fun σ H Q h => by
  obtain ⟨Z, env, S0, h⟩ := h
  obtain ⟨Fs, S⟩ := id S0
  unfold var at h
  cases e : env[i]? with
  | none => rw [e] at h; exact h.elim
  | some o =>
    rw [e] at h
    cases o with
    | none => exact h.elim
    | some d =>
      obtain ⟨v, ev, r⟩ := S.at_ i d e
      exact ⟨v, ev, h Z v H [] ⟨S0.goR, tmp_brw r (fun p hp => (S.new i p hp).2.2.1) (fun p z => (S.zf p z).2), .nil⟩⟩
theorem ea_nil : PA X [] (RdA X.K G args0) := PA.imp pa_nil fun _ _ _ h => rdA_nil h
theorem ea_cons {r : Env → T (List D)} (ha : PE X e (RdE X.K G da)) (hr : PA X es (RdA X.K G r)) (hs : starEach (e :: es) X.env = (false, eval e X.env) :: starEach es X.env := by rfl) : PA X (e :: es) (RdA X.K G (argsN da r)) :=
  PA.imp (pa_cons ha hr hs) fun _ _ _ h => rdA_cons h
theorem ee_bin {op : Operator} {r : R2} {o : D → D → T D} (hr : OpR X (binaryOp op) r) (ho : Op2 X.K G r o) (ha : PE X a (RdE X.K G da)) (hb : PE X b (RdE X.K G db)) : PE X (.BinOp a op b pos) (RdE X.K G (bin2 o da db)) :=
  PE.imp (pe_op hr ha hb) fun _ _ _ h => rd2 ho h
theorem ee_un {op : UnaryOp} {r : V → Hp → VK → Prop} {o : D → T D} (hr : UnR X (unaryOp op) r) (ho : Op1 X.K G r o) (ha : PE X a (RdE X.K G da)) : PE X (.UnaryOp op a pos) (RdE X.K G (un1 o da)) :=
  PE.imp (pe_un hr ha) fun _ _ _ h => rd1 ho h
theorem ee_cmp {op : CmpOp} {r : R2} {o : D → D → T D} (hr : OpR X (compareOp op) r) (ho : Op2 X.K G r o) (ha : PE X a (RdE X.K G da)) (hb : PE X b (RdE X.K G db)) (hm : behindInMarks op b = false) : PE X (.Compare a [op] [b] pos) (RdE X.K G (bin2 o da db)) :=
  PE.imp (pe_cmpR hr ha hb hm) fun _ _ _ h => rd2 ho h
theorem ee_callB {x : Str} {id : String} {p : Pos} {r : List V → Hp → VK → Prop} {o : List D → T D} {ea : Env → T (List D)} (hc : CallR X (.builtin id) r) (ho : OpN X.K G r o) (hg : Gl X x) (hm : X.mg x = none) (hv : bootBuiltins x = some (.builtin id)) (ha : PA X (e :: es) (RdA X.K G ea)) (hn : x ≠ "__name__" := by decide) (hdb : (x == ("__debug__" : Str)) = false := by decide)
    (he : starEach (e :: es) X.env = (false, eval e X.env) :: starEach es X.env := by rfl) (hpl : (backTo pos (starEach es X.env)).any (·.1) = false := by rfl) :
    PE X (.Call (.Name x p) (e :: es) [] pos) (RdE X.K G (callN o ea)) := PE.imp (pe_callB hc hg hm hv ha hn hdb he hpl) fun _ _ _ h => rdN ho h
theorem ee_callTy {x : Str} {ty : String} {p : Pos} {r : List V → Hp → VK → Prop} {o : List D → T D} {ea : Env → T (List D)} (hc : CallR X (.type ty) r) (ho : OpN X.K G r o) (hg : Gl X x) (hm : X.mg x = none) (hv : bootBuiltins x = some (.type ty)) (ha : PA X (e :: es) (RdA X.K G ea)) (hn : x ≠ "__name__" := by decide) (hdb : (x == ("__debug__" : Str)) = false := by decide)
    (he : starEach (e :: es) X.env = (false, eval e X.env) :: starEach es X.env := by rfl) (hpl : (backTo pos (starEach es X.env)).any (·.1) = false := by rfl) :
    PE X (.Call (.Name x p) (e :: es) [] pos) (RdE X.K G (callN o ea)) := PE.imp (pe_callTy hc hg hm hv ha hn hdb he hpl) fun _ _ _ h => rdN ho h
end
end Dn

set_option Elab.async false
set_option linter.all false
set_option maxRecDepth 100000
namespace Dn
open PySem PySem.Spec PyProof.Rows L2

/-! ## statements -/
inductive Out | nx (env : Env) | rt (d : D) | bk (env : Env) | ct (env : Env)
abbrev SD := Env → T Out
/-- nothing in it belongs to this call's callers or to its slots -/
def Fl.pure : Fl → Bool
  | .own => true | .frz => true | _ => false
mutual
def clean : D → Bool
  | .tup xs => cleanL xs
  | .lst f xs => f.pure && cleanL xs
  | .dic f kvs => f.pure && cleanK kvs
  | .non => true | .bl _ => true | .int _ => true | .str _ => true | .pot => true
def cleanL : List D → Bool
  | [] => true
  | d :: ds => clean d && cleanL ds
def cleanK : List (D × D) → Bool
  | [] => true
  | p :: ds => clean p.1 && clean p.2 && cleanK ds
end
theorem clean_tup (xs : List D) : clean (.tup xs) = cleanL xs := by rw [clean]
theorem clean_lst (f : Fl) (xs : List D) : clean (.lst f xs) = (f.pure && cleanL xs) := by rw [clean]
theorem clean_dic (f : Fl) (xs : List (D × D)) : clean (.dic f xs) = (f.pure && cleanK xs) := by rw [clean]
theorem cleanL_cons (d : D) (ds : List D) : cleanL (d :: ds) = (clean d && cleanL ds) := by rw [cleanL]
theorem cleanL_nil : cleanL [] = true := by rw [cleanL]
theorem cleanK_nil : cleanK [] = true := by rw [cleanK]
theorem cleanK_cons (p : D × D) (ds : List (D × D)) : cleanK (p :: ds) = (clean p.1 && clean p.2 && cleanK ds) := by rw [cleanK]
theorem cleanL_app : ∀ xs ys : List D, cleanL (xs ++ ys) = (cleanL xs && cleanL ys)
  | [], ys => by rw [List.nil_append, cleanL_nil, Bool.true_and]
  | x :: xs, ys => by rw [List.cons_append, cleanL_cons, cleanL_cons, cleanL_app xs ys, Bool.and_assoc]
theorem cleanK_eq : ∀ kvs : List (D × D), cleanK kvs = cleanL (kvL kvs)
  | [] => by rw [cleanK_nil]; unfold kvL; rw [List.map_nil, List.map_nil, List.nil_append, cleanL_nil]
  | p :: ds => by
    have ih := cleanK_eq ds
    unfold kvL at ih ⊢
    rw [cleanL_app] at ih
    rw [cleanK_cons, List.map_cons, List.map_cons, cleanL_app, cleanL_cons, cleanL_cons, ih]
    cases clean p.1 <;> cases clean p.2 <;> cases cleanL (ds.map (·.1)) <;> rfl
/-- what a call hands back: of its entry's ghost -/
def Gh.zr (pot : Option Addr) (Z : Addr → Prop) : Zs := ⟨Z, fun _ => False, fun _ => False, pot⟩
section
variable {K : PySem.W.Frag} {G : Gh} {Z Z' Z0 Z1 Z2 : Addr → Prop} {H H' H0 H1 H2 : Hp} {Fin F F1 F2 : List Addr} {d : D} {v : V}
theorem eff_pure {m f g : Fl} (hm : m = .own ∨ m = .frz) (e : eff m f = some g) (hf : f.pure = true) : g = .own ∨ g = .frz := by
  rcases hm with rfl | rfl <;> cases f <;> simp [eff, Fl.pure] at e hf <;> simp [← e]
theorem RepL.cleaned {m : Fl} {ds : List D} {vs : List V} (h : RepL K (G.zs Z) H m ds vs F) : (m = .own ∨ m = .frz) → cleanL ds = true → RepL K (Gh.zr G.pot Z) H m ds vs F := by
  induction h with
  | nil => intro _ _; exact .nil
  | sc e _ ih =>
    intro hm c
    rw [cleanL_cons, Bool.and_eq_true] at c
    exact .sc e (ih hm c.2)
  | pot e _ ih =>
    intro hm c
    rw [cleanL_cons, Bool.and_eq_true] at c
    exact .pot e (ih hm c.2)
  | tup e _ _ ih1 ih2 =>
    intro hm c
    rw [cleanL_cons, Bool.and_eq_true, clean_tup] at c
    exact .tup e (ih1 (.inr rfl) c.1) (ih2 hm c.2)
  | own e1 e2 _ _ ih1 ih2 =>
    intro hm c
    rw [cleanL_cons, Bool.and_eq_true, clean_lst, Bool.and_eq_true] at c
    exact .own e1 e2 (ih1 (.inl rfl) c.1.2) (ih2 hm c.2)
  | shr e0 e1 e2 _ _ ih1 ih2 =>
    intro hm c
    rw [cleanL_cons, Bool.and_eq_true, clean_lst, Bool.and_eq_true] at c
    have hg := eff_pure hm e0 c.1.1
    refine .shr e0 ?_ e2 (ih1 hg c.1.2) (ih2 hm c.2)
    rcases hg with rfl | rfl
    · exact e1
    · exact e1
  | down e1 e2 e3 _ _ ih1 ih2 =>
    intro hm c
    rw [cleanL_cons, Bool.and_eq_true, clean_dic, Bool.and_eq_true, cleanK_eq] at c
    exact .down e1 e2 e3 (ih1 (.inl rfl) c.1.2) (ih2 hm c.2)
  | dshr e0 e1 e2 e3 _ _ ih1 ih2 =>
    intro hm c
    rw [cleanL_cons, Bool.and_eq_true, clean_dic, Bool.and_eq_true, cleanK_eq] at c
    have hg := eff_pure hm e0 c.1.1
    refine .dshr e0 ?_ e2 e3 (ih1 hg c.1.2) (ih2 hm c.2)
    rcases hg with rfl | rfl
    · exact e1
    · exact e1
end
theorem clean_nb {d : D} (h : clean d = true) : topBor d = false := by
  cases d with
  | lst f xs =>
    rw [clean_lst, Bool.and_eq_true] at h
    cases f <;> first | rfl | (have := h.1; simp [Fl.pure] at this)
  | dic f xs =>
    rw [clean_dic, Bool.and_eq_true] at h
    cases f <;> first | rfl | (have := h.1; simp [Fl.pure] at this)
  | _ => rfl
/-- the end of a call -/
structure FnOut (K : PySem.W.Frag) (pot : Option Addr) (Z0 : Addr → Prop) (H0 : Hp) (d : D) (Z' : Addr → Prop) (v : V) (H' : Hp) (F : List Addr) : Prop where
  go : Go ⟨H0, pot, Z0⟩ Z0 H0 Z' H'
  rep : RepL K (Gh.zr pot Z') H' .own [d] [v] F
  new : New ⟨H0, pot, Z0⟩ H0 Z' F

def Post (K : PySem.W.Frag) (G : Gh) (Z : Addr → Prop) (H : Hp) (dn : Ends) : Out → Prop
  | .nx e => ∀ Z' σ' H', StRel K G Z' e σ' H' → Keep K G Z H Z' H' → dn.nx σ' H'
  | .bk e => ∀ Z' σ' H', StRel K G Z' e σ' H' → Keep K G Z H Z' H' → dn.bk σ' H'
  | .ct e => ∀ Z' σ' H', StRel K G Z' e σ' H' → Keep K G Z H Z' H' → dn.ct σ' H'
  | .rt d => ∀ Z' v H' F, FnOut K G.pot G.Z0 G.H0 d Z' v H' F → dn.rt v H'
def RdS (K : PySem.W.Frag) (G : Gh) (s : SD) : TS := fun dn σ H => ∃ Z env, StRel K G Z env σ H ∧ (s env).Holds (Post K G Z H dn)
section
variable {K : PySem.W.Frag} {G : Gh} {Z Z' : Addr → Prop} {σ : L2.St} {H H' : Hp} {env : Env} {dn : Ends}
def seqS (a b : SD) : SD := fun env => (a env).bind fun o => match o with
  | .nx e => b e
  | o => .ret o
def skipS : SD := fun env => .ret (.nx env)
theorem rdS_seq {a b : SD} (h : RdS K G (seqS a b) dn σ H) : tSeq (RdS K G a) (RdS K G b) dn σ H := by
  obtain ⟨Z, env, S, h⟩ := h
  refine ⟨Z, env, S, (T.holds_bind h).mono fun o h => ?_⟩
  cases o with
  | nx e =>
    intro Z1 σ1 H1 S1 k
    refine ⟨Z1, e, S1, h.mono fun o h => ?_⟩
    cases o with
    | nx e => exact fun Z' σ' H' S' k' => h Z' σ' H' S' (k.trans k')
    | bk e => exact fun Z' σ' H' S' k' => h Z' σ' H' S' (k.trans k')
    | ct e => exact fun Z' σ' H' S' k' => h Z' σ' H' S' (k.trans k')
    | rt d => exact h
  | bk e => exact h
  | ct e => exact h
  | rt d => exact h
theorem rdS_skip (h : RdS K G skipS dn σ H) : tNext dn σ H := by
  obtain ⟨Z, env, S, h⟩ := h
  exact h Z σ H S .refl
def setS (i : Nat) (e : Env → T D) : SD := fun env => (e env).bind fun d => if topBor d then .fail else .ret (.nx (env.set i (some d)))
theorem rdS_set {i : Nat} {e : Env → T D} (h : RdS K G (setS i e) dn σ H) : tAsg (RdE K G e) (gName i) dn σ H := by
  obtain ⟨Z, env, S, h⟩ := h
  refine ⟨Z, env, S, (T.holds_bind h).mono fun d h Z' v H' F o => ?_⟩
  cases hb : topBor d with
  | true => rw [hb] at h; exact h.elim
  | false =>
    rw [hb] at h
    exact h Z' _ H' (S.put o hb) o.go.keep
/-- a value alone -/
def dropS (e : Env → T D) : SD := fun env => (e env).bind fun _ => .ret (.nx env)
theorem rdS_drop {e : Env → T D} (h : RdS K G (dropS e) dn σ H) : tDrop (RdE K G e) dn σ H := by
  obtain ⟨Z, env, S, h⟩ := h
  exact ⟨Z, env, S, (T.holds_bind h).mono fun d h Z' v H' F o => h Z' _ H' (S.go o.go) o.go.keep⟩
def retS (e : Env → T D) : SD := fun env => (e env).bind fun d => if clean d then .ret (.rt d) else .fail
theorem fnOut_of {Fs : Nat → List Addr} {d : D} {v : V} {F : List Addr} (S : StF K G Z env σ H Fs) (r : RepL K (G.zs Z) H .own [d] [v] F) (n : New G G.H0 Z F) (c : clean d = true) : FnOut K G.pot G.Z0 G.H0 d Z v H F :=
  ⟨⟨S.all.grow, S.all.potA, S.all.potB, S.all.zle, S.all.znew, S.all.zA, S.all.zB⟩, r.cleaned (.inl rfl) (by rw [cleanL_cons, c, cleanL_nil]; rfl), ⟨n.new, n.nd⟩⟩
theorem rdS_ret {e : Env → T D} (h : RdS K G (retS e) dn σ H) : tRet (RdE K G e) dn σ H := by
  obtain ⟨Z, env, S, h⟩ := h
  refine ⟨Z, env, S, (T.holds_bind h).mono fun d h Z' v H' F o => ?_⟩
  cases hc : clean d with
  | false => rw [hc] at h; exact h.elim
  | true =>
    rw [hc] at h
    obtain ⟨Fs, S⟩ := S
    rcases o.tmp with ⟨a, _⟩ | ⟨_, r⟩
    · rw [clean_nb hc] at a; cases a
    · exact h Z' v H' F (fnOut_of (S.go o.go) r (o.new.back S.grow) hc)
/-- return x, x a slot -/
def retV (i : Nat) : SD := fun env => match env[i]? with
  | some (some d) => if clean d then .ret (.rt d) else .fail
  | _ => .fail
theorem retV_some {i : Nat} {d : D} (e : env[i]? = some (some d)) : retV i env = if clean d then .ret (.rt d) else .fail := by
  unfold retV
  rw [e]
theorem retV_none {i : Nat} (e : ∀ d, env[i]? ≠ some (some d)) : retV i env = .fail := by
  unfold retV
  split
  · rename_i d h
    exact absurd h (e d)
  · rfl
theorem rdS_retV {i : Nat} (h : RdS K G (retV i) dn σ H) : tRet (tVar i) dn σ H := by
  obtain ⟨Z, env, S, h⟩ := h
  obtain ⟨Fs, S⟩ := S
  by_cases e : ∃ d, env[i]? = some (some d)
  · obtain ⟨d, e⟩ := e
    rw [retV_some e] at h
    obtain ⟨v, ev, r⟩ := S.at_ i d e
    cases hc : clean d with
    | false => rw [hc] at h; exact h.elim
    | true =>
      rw [hc] at h
      exact ⟨v, ev, h Z v H _ (fnOut_of S r ⟨fun p hp => ⟨(S.new i p hp).1, (S.new i p hp).2.1, (S.new i p hp).2.2.1⟩, S.nd i⟩ hc)⟩
  · rw [retV_none fun d hd => e ⟨d, hd⟩] at h
    exact h.elim
def retN : SD := fun _ => .ret (.rt .non)
theorem rdS_retN (h : RdS K G retN dn σ H) : tRetN dn σ H := by
  obtain ⟨Z, env, ⟨Fs, S⟩, h⟩ := h
  exact h Z .non H [] (fnOut_of S (.sc rfl .nil) .nil rfl)
def brkS : SD := fun env => .ret (.bk env)
def cntS : SD := fun env => .ret (.ct env)
theorem rdS_brk (h : RdS K G brkS dn σ H) : tBreak dn σ H := by
  obtain ⟨Z, env, S, h⟩ := h
  exact h Z σ H S .refl
theorem rdS_cnt (h : RdS K G cntS dn σ H) : tCont dn σ H := by
  obtain ⟨Z, env, S, h⟩ := h
  exact h Z σ H S .refl
/-- the rest, from a state further on -/
theorem Post.from {Z1 : Addr → Prop} {H1 : Hp} {o : Out} (k : Keep K G Z H Z1 H1) (h : Post K G Z H dn o) : Post K G Z1 H1 dn o := by
  cases o with
  | nx e => exact fun Z' σ' H' S' k' => h Z' σ' H' S' (k.trans k')
  | bk e => exact fun Z' σ' H' S' k' => h Z' σ' H' S' (k.trans k')
  | ct e => exact fun Z' σ' H' S' k' => h Z' σ' H' S' (k.trans k')
  | rt d => exact h
def ifS (c : Env → T Bool) (a b : SD) : SD := fun env => (c env).bind fun k => if k then a env else b env
theorem rdS_if {c : Env → T Bool} {a b : SD} (h : RdS K G (ifS c a b) dn σ H) : tIfS (RdT K G c) (RdS K G a) (RdS K G b) dn σ H := by
  obtain ⟨Z, env, S, h⟩ := h
  refine ⟨Z, env, S, (T.holds_bind h).mono fun k h Z' H' g => ?_⟩
  cases k with
  | true => exact ⟨Z', env, S.go g, h.mono fun o h => h.from g.keep⟩
  | false => exact ⟨Z', env, S.go g, h.mono fun o h => h.from g.keep⟩
/-- while: so many turns at most -/
def whileS (c : Env → T Bool) (body : SD) : Nat → SD
  | 0 => fun _ => .fail
  | n + 1 => fun env => (c env).bind fun k => if k then (body env).bind fun o => match o with
      | .nx e => whileS c body n e
      | .ct e => whileS c body n e
      | .bk e => .ret (.nx e)
      | .rt d => .ret (.rt d)
    else .ret (.nx env)
theorem rdS_while {c : Env → T Bool} {body : SD} {n : Nat} (h : RdS K G (whileS c body n) dn σ H) : tWhile (RdT K G c) (RdS K G body) dn σ H := by
  obtain ⟨Z, env, S, h⟩ := h
  refine ⟨fun m σ1 H1 => ∃ Z1 env1, StRel K G Z1 env1 σ1 H1 ∧ Keep K G Z H Z1 H1 ∧ (whileS c body m env1).Holds _, ⟨n, Z, env, S, .refl, h⟩, ?_⟩
  rintro m σ1 H1 ⟨Z1, env1, S1, k1, h1⟩
  cases m with
  | zero => exact h1.elim
  | succ m =>
    refine ⟨Z1, env1, S1, (T.holds_bind h1).mono fun b h Z2 H2 g => ?_⟩
    cases b with
    | false => exact h Z2 σ1 H2 (S1.go g) (k1.trans g.keep)
    | true =>
      rw [if_pos rfl]
      refine ⟨fun σ' H' => ∃ Z1 env1, StRel K G Z1 env1 σ' H' ∧ Keep K G Z H Z1 H' ∧ (whileS c body m env1).Holds _, fun σ' H' w => ⟨m, Nat.lt_succ_self _, w⟩, Z2, env1, S1.go g, (T.holds_bind h).mono fun o h => ?_⟩
      cases o with
      | nx e => exact fun Z' σ' H' S' k' => ⟨Z', e, S', (k1.trans g.keep).trans k', h⟩
      | ct e => exact fun Z' σ' H' S' k' => ⟨Z', e, S', (k1.trans g.keep).trans k', h⟩
      | bk e => exact fun Z' σ' H' S' k' => h Z' σ' H' S' ((k1.trans g.keep).trans k')
      | rt d => exact h
end

/-! ## what a for walks -/
/-- what the walk leans on -/
def Stab (K : PySem.W.Frag) (G : Gh) (Z : Addr → Prop) (H H' : Hp) : Prop := (∀ p o, (Z p ∨ G.za p) → H p = some o → H' p = some o) ∧ ∀ p ws, TupX K H p ws → TupX K H' p ws
/-- what is given at turn i -/
def Yld (K : PySem.W.Frag) (G : Gh) (Z : Addr → Prop) (es : List D) (i : Nat) (H : Hp) (x : V) (H' : Hp) : Prop :=
  ∀ Z2, (∀ p, Z p → Z2 p) → (∀ p, G.pot = some p → PotObj (H p)) → (∀ p, Z2 p → H p ≠ none ∧ some p ≠ G.pot) → Go G Z2 H Z2 H' ∧ ∃ d, es[i]? = some d ∧ RepL K (G.zs Z) H' .own [d] [x] []
structure ItOut (K : PySem.W.Frag) (G : Gh) (Z : Addr → Prop) (H : Hp) (es : List D) (Z' : Addr → Prop) (H' : Hp) (J : It) : Prop where
  go : Go G Z H Z' H'
  walk : Walk J es.length (Stab K G Z' H') (Yld K G Z' es)
def RdI (K : PySem.W.Frag) (G : Gh) (e : Env → T (List D)) : TI := fun σ H R => ∃ Z env, StRel K G Z env σ H ∧ (e env).Holds fun es => ∀ Z' H' J, ItOut K G Z H es Z' H' J → R J H'
/-- but for the slots sl all stay -/
def Unch (sl : List Nat) (σ τ : L2.St) : Prop := τ.length = σ.length ∧ ∀ i, i ∉ sl → τ[i]? = σ[i]?
/-- a target: sl, the slots that it stores -/
def RdG (K : PySem.W.Frag) (G : Gh) (sl : List Nat) (t : D → Env → T Env) : TG := fun v σ H Q => ∃ Z env d, StRel K G Z env σ H ∧ RepL K (G.zs Z) H .own [d] [v] [] ∧ (t d env).Holds fun env' => ∀ σ' : L2.St, StRel K G Z env' σ' H → Unch sl σ σ' → Q σ' H
def tgN (i : Nat) : D → Env → T Env := fun d env => .ret (env.set i (some d))
section
variable {K : PySem.W.Frag} {G : Gh} {Z Z' : Addr → Prop} {σ : L2.St} {H H' : Hp} {env : Env} {dn : Ends}
theorem StF.put0 {Fs : Nat → List Addr} (S : StF K G Z env σ H Fs) {i : Nat} {d : D} {v : V} (r : RepL K (G.zs Z) H .own [d] [v] []) : StRel K G Z (env.set i (some d)) (σ.set i (some v)) H :=
  ⟨_, S.put r .nil (fun _ h => nomatch h) fun _ _ _ h => nomatch h⟩
theorem rdG_n {i : Nat} {v : V} {Q : L2.St → Hp → Prop} (h : RdG K G [i] (tgN i) v σ H Q) : gName i v σ H Q := by
  obtain ⟨Z, env, d, ⟨Fs, S⟩, r, h⟩ := h
  exact h _ (S.put0 r) ⟨by rw [List.length_set], fun j hj => List.getElem?_set_ne (fun e => hj (by rw [e]; exact List.mem_singleton.mpr rfl))⟩
def loopS (tg : D → Env → T Env) (body : SD) : List D → SD
  | [] => fun env => .ret (.nx env)
  | d :: ds => fun env => (tg d env).bind fun env1 => (body env1).bind fun o => match o with
    | .nx e => loopS tg body ds e
    | .ct e => loopS tg body ds e
    | .bk e => .ret (.nx e)
    | .rt d => .ret (.rt d)
def forS (src : Env → T (List D)) (tg : D → Env → T Env) (body : SD) : SD := fun env => (src env).bind fun es => loopS tg body es env
theorem rdS_for {sl : List Nat} {src : Env → T (List D)} {tg : D → Env → T Env} {body : SD} (h : RdS K G (forS src tg body) dn σ H) : tFor (RdI K G src) (RdG K G sl tg) (RdS K G body) dn σ H := by
  obtain ⟨Z, env, S, h⟩ := h
  refine ⟨Z, env, S, (T.holds_bind h).mono fun es h Z1 H1 J w => ?_⟩
  refine for_it w.walk (fun i σ2 H2 => ∃ Z2 env2, StRel K G Z2 env2 σ2 H2 ∧ Keep K G Z1 H1 Z2 H2 ∧ (loopS tg body (es.drop i) env2).Holds _) ⟨Z1, env, S.go w.go, .refl, h⟩ ?_ ?_ ?_
  · rintro i σ2 H2 _ ⟨Z2, env2, S2, k2, _⟩
    refine ⟨fun p o hp e => ?_, k2.kt⟩
    rcases hp with hp | hp
    · exact k2.kz p o hp e
    · obtain ⟨Fs, S2⟩ := S2
      obtain ⟨Fa, Sa⟩ := S.go w.go
      cases q : G.H0 p with
      | none => exact absurd q hp.1
      | some u =>
        have e1 := Sa.grow.keep p u hp.2 q
        have e2 := S2.grow.keep p u hp.2 q
        rw [e] at e1
        rw [e2, e1]
  · rintro i x σ2 H2 H3 hi ⟨Z2, env2, S2, k2, h2⟩ y
    obtain ⟨Fs, S2'⟩ := id S2
    obtain ⟨g, d, ed, r⟩ := y Z2 k2.zle S2'.pot S2'.zf
    have S3 := S2.go g
    have r3 : RepL K (G.zs Z2) H3 .own [d] [x] [] := r.carry k2.zle (fun _ z => z) (fun _ _ z => z) (fun _ z => z) (fun _ _ _ e => e) fun _ _ e => e
    have ed' : es.drop i = d :: es.drop (i + 1) := by
      have hl : i < es.length := hi
      rw [List.drop_eq_getElem_cons hl]
      congr 1
      rw [List.getElem?_eq_getElem hl] at ed
      exact Option.some.inj ed
    rw [ed'] at h2
    refine ⟨Z2, env2, d, S3, r3, (T.holds_bind h2).mono fun env3 h3 σ3 S4 _ => ⟨Z2, env3, S4, (T.holds_bind h3).mono fun o h => ?_⟩⟩
    have k3 := k2.trans (Z2 := Z2) (H2 := H3) g.keep
    cases o with
    | nx e => exact fun Z' σ' H' S' k' => ⟨Z', e, S', k3.trans k', h⟩
    | ct e => exact fun Z' σ' H' S' k' => ⟨Z', e, S', k3.trans k', h⟩
    | bk e => exact fun Z' σ' H' S' k' => h Z' σ' H' S' (w.go.keep.trans (k3.trans k'))
    | rt d => exact h
  · rintro σ2 H2 ⟨Z2, env2, S2, k2, h2⟩
    rw [List.drop_length] at h2
    exact h2 Z2 σ2 H2 S2 (w.go.keep.trans k2)
end

/-! ## statements of the text -/
section
variable {X : Cx} {G : Gh} {st : Stmt} {rest a b : List Stmt} {e : Expr} {pos : Pos} {s s1 s2 : SD} {de : Env → T D}
theorem ss_nil : PSs X [] (RdS X.K G skipS) := PSs.imp pss_nil fun _ _ _ h => rdS_skip h
theorem ss_cons (h1 : PS X st (RdS X.K G s1)) (h2 : PSs X rest (RdS X.K G s2)) : PSs X (st :: rest) (RdS X.K G (seqS s1 s2)) := PSs.imp (pss_cons h1 h2) fun _ _ _ h => rdS_seq h
theorem ss_one (h1 : PS X st (RdS X.K G s1)) : PSs X [st] (RdS X.K G s1) := pss_one h1
theorem st_pass : PS X (.Pass pos) (RdS X.K G skipS) := PS.imp ps_pass fun _ _ _ h => rdS_skip h
theorem st_brk : PS X (.Break pos) (RdS X.K G brkS) := PS.imp ps_break fun _ _ _ h => rdS_brk h
theorem st_cnt : PS X (.Continue pos) (RdS X.K G cntS) := PS.imp ps_continue fun _ _ _ h => rdS_cnt h
theorem st_set {x : Str} {pos' : Pos} (i : Nat) (hN : X.N.Nodup) (he : PE X e (RdE X.K G de)) (hi : X.N[i]? = some x := by rfl) (hx : Loc X.env.scope x := by first | exact Or.inl rfl | exact Or.inr rfl) (hs : swapsWith e (some (.Name x pos')) pos.line X.env = pure false := by rfl)
    (hf : X.fn x = true ∨ X.env.scope.names.lookup x = some .local := by first | exact .inl rfl | exact .inr rfl) : PS X (.Assign [.Name x pos'] e pos) (RdS X.K G (setS i de)) := PS.imp (ps_set hN hi hx he hs hf) fun _ _ _ h => rdS_set h
theorem st_expr (he : PE X e (RdE X.K G de)) (hs : swapsWith e none pos.line X.env = pure false := by rfl) : PS X (.Expr e pos) (RdS X.K G (dropS de)) := PS.imp (ps_expr he hs) fun _ _ _ h => rdS_drop h
theorem st_ret (he : PE X e (RdE X.K G de)) : PS X (.Return (some e) pos) (RdS X.K G (retS de)) := PS.imp (ps_ret he) fun _ _ _ h => rdS_ret h
theorem st_retV {x : Str} {pos' : Pos} (i : Nat) (hN : X.N[i]? = some x := by rfl) (hv : Vis X.env.scope x := by first | exact Or.inl rfl | exact Or.inr (Or.inl rfl) | exact Or.inr (Or.inr rfl)) (hd : (x == ("__debug__" : Str)) = false := by decide)
    (hcd : (x == ("__classdict__" : Str)) = false := by decide) : PS X (.Return (some (.Name x pos')) pos) (RdS X.K G (retV i)) := PS.imp (ps_ret (pe_var hN hv hd hcd)) fun _ _ _ h => rdS_retV h
theorem st_retN : PS X (.Return none pos) (RdS X.K G retN) := PS.imp ps_retN fun _ _ _ h => rdS_retN h
theorem st_if {c : Expr} {dc : Env → T Bool} (hc : PT X c (RdT X.K G dc)) (ha : PSs X a (RdS X.K G s1)) (hb : PSs X b (RdS X.K G s2)) : PS X (.If c a b pos) (RdS X.K G (ifS dc s1 s2)) := PS.imp (ps_if hc ha hb) fun _ _ _ h => rdS_if h
def failS : SD := fun _ => .fail
/-- a statement that is never come to -/
theorem st_never : PS X st (RdS X.K G failS) := PS.imp ps_never fun _ _ _ ⟨_, _, _, h⟩ => h
theorem st_while {c : Expr} {dc : Env → T Bool} (n : Nat) (hp : PassesOwn (model X.prog X.w) X.A X.env X.xe) (hc : PT X c (RdT X.K G dc)) (hb : PSs X a (RdS X.K G s1)) : PS X (.While c a [] pos) (RdS X.K G (whileS dc s1 n)) :=
  PS.imp (ps_while hp hc hb) fun _ _ _ h => rdS_while h
theorem st_for {sl : List Nat} {tg iter : Expr} {src : Env → T (List D)} {dt : D → Env → T Env} (hp : PassesOwn (model X.prog X.w) X.A X.env X.xe) (hc : X.calm = true) (hi : PI X tg iter (RdI X.K G src)) (hg : PG X tg (RdG X.K G sl dt)) (hb : PSs X a (RdS X.K G s1))
    (hs : ∀ x, foldedSetIterable iter X.env x = pure x := by intro _; rfl) : PS X (.For tg iter a [] pos) (RdS X.K G (forS src dt s1)) := PS.imp (ps_for hp hc hi hg hb hs) fun _ _ _ h => rdS_for h
theorem PG.imp {tg : Expr} {t t' : TG} (h : PG X tg t) (i : ∀ v σ H Q, t' v σ H Q → t v σ H Q) : PG X tg t' := ⟨fun pins s σ H v u Q I r q => h.run pins s σ H v u Q I r (i v σ H Q q)⟩
theorem tg_n {x : Str} (i : Nat) (hN : X.N.Nodup) (hi : X.N[i]? = some x := by rfl) (hx : Loc X.env.scope x := by first | exact Or.inl rfl | exact Or.inr rfl) (hf : X.fn x = true ∨ X.env.scope.names.lookup x = some .local := by first | exact .inl rfl | exact .inr rfl) : PG X (.Name x pos) (RdG X.K G [i] (tgN i)) :=
  PG.imp (pg_name hN hi hx hf) fun _ _ _ _ h => rdG_n h
end
end Dn

set_option Elab.async false
set_option linter.all false
set_option maxRecDepth 100000
namespace Dn
open PySem PySem.Spec PyProof.Rows L2
/-! ## tuples that are made: without a dict -/
section
variable {X : Cx} {pins : List (Addr × Obj)} {σ : L2.St} {H : Hp} {st : Shared} {Q : VK}
theorem tup_obj {its : List Value} {xs : List V} {hp : Heap} {p : Addr} {o : Obj} (rv : Vals xs its) (hz : xs.length ≤ sizeLine) (e : hp.get? p = some o) (n : NewT o) (d : ∃ k, o.data = .seq its.toArray k) {H' : Hp} :
    ObjOk X.prog X.w H' hp p (.frz o (.tup xs)) := ⟨e, hz, its, rv, o, e, n.1, d⟩
theorem mkT {hp : Heap} {tk : Nat} {its : List Value} {xs : List V} (I : Inv X pins σ H st) (hk : ∀ b o, st.heap.get? b = some o → hp.get? b = some o) (rv : Vals xs its) (hz : xs.length ≤ sizeLine) (q : MkT H xs Q) :
    EP X pins σ Q (.ref hp.objs.size) { st with heap := hp.push { cls := .type "tuple", data := .seq its.toArray }, toks := tk } := by
  have I1 : Inv X pins σ H { st with heap := hp, toks := tk } := I.kept hk
  exact ⟨.ref hp.objs.size, _, I1.laid (t' := tk) (fun b o e => Heap.get?_push_of_some _ e) (Nat.le_refl _) (tup_obj rv hz (Heap.get?_push_size _ rfl) ⟨rfl, rfl⟩ ⟨_, rfl⟩), rfl, q _ _ ⟨rfl, rfl⟩ (I1.hok.fresh (Nat.le_refl _))⟩
theorem mkT0 {its : List Value} {xs : List V} (I : Inv X pins σ H st) (rv : Vals xs its) (hz : xs.length ≤ sizeLine) (q : MkT H xs Q) :
    EP X pins σ Q (.ref st.heap.objs.size) { st with heap := st.heap.push { cls := .type "tuple", data := .seq its.toArray } } := mkT (tk := st.toks) I (fun _ _ e => e) rv hz q
/-- (a, b, ..) -/
theorem pe_tupX {es : List Expr} {ta : TA} {k : Nat} {pos : Pos} (ha : PA X es ta) : PE X (.Tuple es k pos) (fun σ H Q => ta σ H fun xs H1 => xs.length ≤ sizeLine ∧ MkT H1 xs Q) :=
  ⟨fun pins st σ H Q I hq => wpAny_Tuple_spliced (thn (ha.run pos pins st σ H _ I hq) fun us s1 ⟨xs, H1, I1, rr, hz, q⟩ => ⟨by rw [← rr.length]; exact hz, mkT0 I1 rr hz q⟩)⟩
/-- tuple(x) -/
theorem cr_tupX : CallR X (.type "tuple") fun xs H Q => ∃ p ys, xs = [.ref p] ∧ ((SqL X.K H p ys ∧ MkT H ys Q) ∨ (SqT X.K H p ys ∧ Q (.ref p) H)) := by
  intro pins st σ H xs us Q I rr h
  obtain ⟨p, ys, rfl, h⟩ := h
  obtain ⟨u, rfl, rx⟩ := vals1 rr
  cases rx
  rcases h with ⟨hq, q⟩ | ⟨hq, q⟩
  · obtain ⟨its, rv, pl, hz⟩ := I.list hq
    exact call_tuple_list pl.isList (fun hp kp => mkT (tk := st.toks) I kp rv hz q) (by rw [List.size_toArray, ← rv.length]; exact hz)
  · obtain ⟨its, rv, pl, hz⟩ := I.tuple hq
    exact call_tuple_same pl ⟨.ref p, H, I, rfl, q⟩
/-- tuple(range(..)) -/
theorem pe_tupRgX {e : Expr} {te : L2.St → Hp → (Int → Int → Hp → Prop) → Prop} {p pos : Pos} (hc : X.calm = true) (hg : Gl X "tuple") (hm : X.mg "tuple" = none) (he : PRg X e te) (na : starEach [e] X.env = (false, eval e X.env) :: starEach [] X.env := by rfl) :
    PE X (.Call (.Name "tuple" p) [e] [] pos) (fun σ H Q => te σ H fun a b H1 => RgOk a b ∧ MkT H1 (rgV a b) Q) := by
  refine ⟨fun pins st σ H Q I h => ?_⟩
  refine Call_ (ld_blt I hg hm boot_tuple (PyProof.Rows.callWith_type1 (args_cons (thn (he pins st σ H _ I h) fun x s1 hx => args_nil ?_) na) na))
  obtain ⟨rr, a, b, t, u, v, H1, ex, hr, I1, ok, q⟩ := hx
  subst ex
  obtain ⟨b1, b2, b3, b4, b5⟩ := ok
  refine call_tuple_range (n := (b - a).toNat) (I1.ok.hd hc) hr (small_one b1 b2 b3 b4) (rangeSize_nat a b) b5 fun hp tk acc hk hi => ?_
  have := mkT (tk := tk) I1 hk (vals_rg hi) (by rw [rgV_length, sizeLine_eq]; omega) q
  rw [Array.toArray_toList] at this
  exact this
/-- t + u -/
def rCatX (K : PySem.W.Frag) : R2 := fun x y H Q => ∃ a b xs ys, x = .ref a ∧ y = .ref b ∧ SqT K H a xs ∧ SqT K H b ys ∧ xs.length + ys.length ≤ sizeLine ∧
  (xs = [] → Q (.ref b) H) ∧ (ys = [] → Q (.ref a) H) ∧ MkT H (xs ++ ys) Q
theorem op_catX : OpR X (binaryOp .Add) (rCatX X.K) := by
  intro pins st σ H x y v u Q I rx ry h
  obtain ⟨a, b, xs, ys, rfl, rfl, ha, hb, hz, q0, q1, q2⟩ := h
  cases rx
  cases ry
  obtain ⟨its, ra, pa, _⟩ := I.tuple ha
  obtain ⟨itz, rb, pb, _⟩ := I.tuple hb
  by_cases hx : xs = []
  · subst hx
    cases ra
    exact cat_tup0 pa pb ⟨.ref b, H, I, rfl, q0 rfl⟩
  · exact HT.cat_tup pa pb (fun z => hx (ra.nil_iff.mp z)) (fun z => ⟨.ref a, H, I, rfl, q1 (rb.nil_iff.mp z)⟩) (fun z => mkT0 I (ra.append rb) (by rw [List.length_append]; exact hz) q2) (by rw [← ra.length, ← rb.length]; exact hz)
/-- t[lo:hi] -/
def rSlX (K : PySem.W.Frag) : V → Option Int → Option Int → Hp → VK → Prop := fun x lo hi H Q => ∃ a xs, x = .ref a ∧ SqT K H a xs ∧
  (HT.sIx xs.length 0 lo = 0 ∧ HT.sIx xs.length xs.length hi = xs.length → Q (.ref a) H) ∧ MkT H (cutV xs lo hi) Q
theorem sl_tupX : SlR X (rSlX X.K) := by
  intro pins st σ H x v vl vu lo hi sl Q I rx hs pl pu h
  obtain ⟨a, xs, rfl, hx, q1, q2⟩ := h
  cases rx
  obtain ⟨its, rr, ht, hz⟩ := I.tuple hx
  have hlen : its.toArray.size = xs.length := by rw [List.size_toArray]; exact rr.length.symm
  refine ⟨"tuple", _, PyProof.Rows.slot_tuple_getitem.lookup, ht.typeIs, ?_⟩
  by_cases hw : HT.sIx xs.length 0 lo = 0 ∧ HT.sIx xs.length xs.length hi = xs.length
  · exact getItem_tuple_whole ht hs pl pu (by rw [hlen]; exact hw) ⟨.ref a, H, I, rfl, q1 hw⟩
  · refine HT.getItem_tuple_cut ht hs pl pu (by rw [hlen]; exact hw) ?_ (by rw [hlen]; exact hz)
    rw [hlen]
    exact mkT0 I ((rr.drop (HT.sIx xs.length 0 lo)).take (HT.sIx xs.length xs.length hi - HT.sIx xs.length 0 lo)) (Nat.le_trans (cutV_length xs lo hi) hz) q2
/-- t * k -/
def rRepX (K : PySem.W.Frag) : R2 := fun x y H Q => ∃ l k xs, x = .ref l ∧ y = .int k ∧ SqT K H l xs ∧ xs ≠ [] ∧ 2 ≤ k ∧ k ≤ 1000 ∧ xs.length ≤ 1000 ∧ MkT H (List.replicate k.toNat xs).flatten Q
theorem op_repX : OpR X (binaryOp .Mult) (rRepX X.K) := by
  intro pins st σ H x y v u Q I rx ry h
  obtain ⟨l, k, xs, rfl, rfl, hT, hne, h1, h2, hz, q⟩ := h
  cases rx
  obtain ⟨t, rfl⟩ := ry
  obtain ⟨its, rr, ⟨⟨cls, dd, data, sl⟩, ho, hc, n, hd⟩, _⟩ := I.tuple hT
  simp only at hc hd
  subst hc hd
  have hle : its.length = xs.length := rr.length.symm
  have hi : its.toArray.isEmpty = false := by
    cases its with
    | nil => exact absurd (List.eq_nil_of_length_eq_zero hle.symm) hne
    | cons _ _ => rfl
  have hsz : its.toArray.size = xs.length := by rw [List.size_toArray, hle]
  have hmul : k.toNat * xs.length ≤ 1000 * 1000 := Nat.mul_le_mul (by omega) hz
  have hm : ((its.toArray.size : Nat) : Int) * k ≤ 1000000 := by
    rw [hsz]
    have := Int.mul_le_mul_of_nonneg_right (a := ((xs.length : Nat) : Int)) (b := 1000) (c := k) (by omega) (by omega)
    omega
  have fl : (List.replicate k.toNat its).flatten.length ≤ sizeLine := by
    rw [PyProof.Rows.lm_len_rep_flat, hle, sizeLine_eq]
    omega
  have c0 : (decide (k < -(2 ^ 63)) || decide (k ≥ 2 ^ 63)) = false := by simp; omega
  have c1 : (its.toArray.isEmpty || k == 1) = false := by rw [hi]; simp; omega
  have c2 : (decide (k ≤ 0) || its.toArray.isEmpty) = false := by rw [hi]; simp; omega
  have c4 : Builtin.Tuple.tupleTooMany (((its.toArray.size : Nat) : Int) * k) = false := decide_eq_false (by rw [sizeLine_eq]; omega)
  have mu := tuple_mulW l its.toArray n dd sl k t c0 c1 c2 (by omega) c4 (by rw [size_rep, List.size_toArray]; exact fl)
  have last : EP X pins σ Q (.ref st.heap.objs.size) { st with heap := st.heap.push { cls := .type "tuple", data := .seq (List.foldl (fun x1 x2 => x1 ++ x2) #[] (List.replicate k.toNat its.toArray)) } } := by
    rw [size_rep]
    exact mkT0 I (rr.rep k.toNat) (by rw [PyProof.Rows.lm_len_rep_flat, sizeLine_eq]; omega) q
  exact wpAny_binaryOp_repeat_ref (T := "tuple") (U := "int") (by decide) ⟨_, ho, rfl⟩ (fun s' => typeIs_int s' k t) noFill_tuple_mul F.fills_int_mul F.slot_int_rmul repeat_tuple F.slot_int_index.lookup
    (call_meets F.slot_int_rmul (typeIs_int st k t) F.entry_int_rmul (F.args_int_rmul_2 _ _) (int_rmul_tuple k t l its.toArray n dd sl) ⟨ho, rfl, ⟨_, ho, rfl⟩, call_meets F.slot_tuple_mul ⟨_, ho, rfl⟩ F.entry_tuple_mul (F.args_tuple_mul_2 _ _) mu ⟨ho, last⟩⟩)
end
end Dn

set_option Elab.async false
set_option linter.all false
set_option maxRecDepth 100000
namespace Dn
open PySem PySem.Spec PyProof.Rows L2
/-! ## zip, enumerate of lists and tuples: the pairs are new tuples without a dict -/
/-- the list (t false), the tuple (t true) at a -/
def SqB (K : PySem.W.Frag) (t : Bool) (H : Hp) (a : Addr) (xs : List V) : Prop := if t = true then SqT K H a xs else SqL K H a xs
def ItB (t : Bool) (h : Heap) (it a : Addr) (i : Nat) : Prop := if t = true then h.IsTupleIter it a i else h.IsListIter it a i
theorem ItB.at {t : Bool} {h h' : Heap} {it a : Addr} {i : Nat} (x : ItB t h it a i) (k : ∀ o, h.get? it = some o → h'.get? it = some o) : ItB t h' it a i := by
  cases t
  · exact Heap.IsListIter.at x k
  · exact Heap.IsTupleIter.at x k
theorem ItB.obj {t : Bool} {h : Heap} {it a : Addr} {i : Nat} (x : ItB t h it a i) : ∃ o, h.get? it = some o ∧ ∀ v, o.data ≠ .cell v := by
  cases t
  · obtain ⟨o, e, _, d⟩ := (show h.IsListIter it a i from x)
    exact ⟨o, e, fun v q => by rw [d] at q; cases q⟩
  · obtain ⟨o, e, _, d⟩ := (show h.IsTupleIter it a i from x)
    exact ⟨o, e, fun v q => by rw [d] at q; cases q⟩
def begB (t : Bool) (a : Addr) : Obj := if t = true then { cls := .type "tuple_iterator", data := .fields #[.ref a, .int 0 0] } else { cls := .type "list_iterator", data := .fields #[.ref a, .int 0 0] }
theorem begB_it {t : Bool} {a it : Addr} {h : Heap} (e : h.get? it = some (begB t a)) : ItB t h it a 0 := by
  cases t
  · exact ⟨_, e, rfl, rfl⟩
  · exact ⟨_, e, rfl, rfl⟩
section
variable {X : Cx} {pins : List (Addr × Obj)} {σ : L2.St} {H : Hp} {st : Shared}
/-- what an iterator over it gives -/
structure SrcB (X : Cx) (t : Bool) (st : Shared) (it a : Addr) (xs : List V) (its : List Value) (Sv : Nat → Heap → Prop) : Prop where
  vals : Vals xs its
  here : ∀ i, ItB t st.heap it a i → Sv i st.heap
  back : ∀ i h, Sv i h → ItB t h it a i
  draws : Draws X.prog X.w X.A.in1 it [it, a] its.toArray.size (fun i v => its.toArray[i]? = some v) Sv
theorem srcB {t : Bool} {a it : Addr} {xs : List V} (I : Inv X pins σ H st) (hc : X.calm = true) (hq : SqB X.K t H a xs) (hne : a ≠ it) : ∃ its Sv, SrcB X t st it a xs its Sv := by
  cases t
  · obtain ⟨its, rv, p, _⟩ := I.list (show SqL X.K H a xs from hq)
    exact ⟨its, _, rv, fun i h => ⟨h, p.isList⟩, fun i h s => s.1, Draws.list (by show X.A.handled = none; exact I.ok.hd hc) it a hne its.toArray⟩
  · obtain ⟨its, rv, p, _⟩ := I.tuple (show SqT X.K H a xs from hq)
    exact ⟨its, _, rv, fun i h => ⟨h, p⟩, fun i h s => s.1, Draws.tuple (by show X.A.handled = none; exact I.ok.hd hc) it a hne its.toArray⟩
theorem begB_of {t : Bool} {a : Addr} {xs : List V} (I : Inv X pins σ H st) (hq : SqB X.K t H a xs) : ∃ Hb : Heap → Prop, Begins (.ref a) (begB t a) Hb ∧ Hb st.heap ∧ a < st.heap.objs.size := by
  cases t
  · obtain ⟨its, rv, p, _⟩ := I.list (show SqL X.K H a xs from hq)
    obtain ⟨o, e, _⟩ := p.isList
    exact ⟨_, begins_list a its.toArray, p.isList, Heap.lt_size e⟩
  · obtain ⟨its, rv, p, _⟩ := I.tuple (show SqT X.K H a xs from hq)
    obtain ⟨o, e, _⟩ := id p
    exact ⟨_, begins_tuple a its.toArray, p, Heap.lt_size e⟩
theorem sqB_inj {t : Bool} {a : Addr} {xs ys : List V} (I : Inv X pins σ H st) (h1 : SqB X.K t H a xs) (h2 : SqB X.K t H a ys) : xs = ys := by
  cases t
  · exact I.list_inj h1 h2
  · exact I.tuple_inj h1 h2
end
theorem enumT_new (tp : Addr) (ys : Array Value) :
    Meets (Builtin.«enumerate.__new__» ⟨[.type "enumerate", .ref tp], []⟩) (fun _ R st => st.heap.IsTuple tp ys ∧
      R (.ok (.ret (.ref (st.heap.push { cls := .type "tuple_iterator", data := .fields #[.ref tp, .int 0 0] }).objs.size)))
        { st with heap := (st.heap.push { cls := .type "tuple_iterator", data := .fields #[.ref tp, .int 0 0] }).push { cls := .type "enumerate", data := .fields #[.none, .bool false, .ref st.heap.objs.size, rawInt 0, .none, .none] } }) :=
  .of_wp fun pr wd Ar R st hh => by
    obtain ⟨hp, g, d, tk, os⟩ := st; obtain ⟨hq, hh⟩ := hh
    have hsub := sub_enumerate
    have q1 : ∀ {A' : Around} {E : Value → Shared → Prop} {Q : Value → Shared → Prop}, Q (.ref hp.objs.size) ⟨hp.push { cls := .type "tuple_iterator", data := .fields #[.ref tp, .int 0 0] }, g, d, tk, os⟩ → wpAny (model pr wd) A' (pyIter (.ref tp)) Q E ⟨hp, g, d, tk, os⟩ :=
      fun q => (begins_tuple tp ys).iter pr wd _ _ ⟨hp, g, d, tk, os⟩ _ hq q
    wp_walk using q1
    refine wpAny_stack_any fun _ => wpAny_pure ?_
    split
    · rename_i cl _ _ _ _ _
      cases (cl == Value.type "enumerate") <;> (wp_walk using q1; exact ⟨_, rfl, hh⟩)
    · wp_walk using q1
      exact ⟨_, rfl, hh⟩
theorem enumT_call {pr : Program} {wd : World} {Ar : Around} {E : Value → Shared → Prop} {st : Shared} {tp : Addr} {ys : Array Value} {Q : Value → Shared → Prop} (hT : st.heap.IsTuple tp ys)
    (k : ∀ h', IsEnum h' (st.heap.objs.size + 1) st.heap.objs.size 0 .none → h'.IsTupleIter st.heap.objs.size tp 0 → (∀ b o, st.heap.get? b = some o → h'.get? b = some o) → Q (.ref (st.heap.objs.size + 1)) { st with heap := h' }) :
    wpAny (model pr wd) Ar (call (.type "enumerate") [.ref tp]) Q E st := by
  refine callType_new F.called_enumerate (by decide) (F.typeCall_enumerate_1 _) (F.newCall_enumerate_1 _) (fun obj => F.args_object_init_2 obj _) F.entry_enumerate_new (enumT_new tp ys) ⟨hT, ?_⟩
  have hz : (st.heap.push { cls := .type "tuple_iterator", data := .fields #[.ref tp, .int 0 0] }).objs.size = st.heap.objs.size + 1 := Heap.size_push ..
  show _ ∧ _
  rw [hz]
  have he := Heap.get?_push_size (st.heap.push { cls := .type "tuple_iterator", data := .fields #[.ref tp, .int 0 0] }) (o := { cls := .type "enumerate", data := .fields #[.none, .bool false, .ref st.heap.objs.size, rawInt 0, .none, .none] }) rfl
  rw [hz] at he
  exact ⟨⟨_, he, rfl⟩, k _ he ⟨_, Heap.get?_push_of_some _ (Heap.get?_push_size _ rfl), rfl, rfl⟩ fun b o x => Heap.get?_push_of_some _ (Heap.get?_push_of_some _ x)⟩
/-- at turn i a new pair of what f, g tell -/
def YNew (f g : Nat → Option V) : Nat → Hp → V → Hp → Prop := fun i H v H' => ∃ T o x y, v = .ref T ∧ NewT o ∧ H T = none ∧ H' = upd H T (.frz o (.tup [x, y])) ∧ f i = some x ∧ g i = some y
def ItzX (K : PySem.W.Frag) (t u : Bool) (a b : Addr) : It :=
  ⟨fun i H => ∃ (xs ys : List V) (x y : V), SqB K t H a xs ∧ SqB K u H b ys ∧ xs[i]? = some x ∧ ys[i]? = some y,
    fun i H v H' => ∃ T o x y, v = .ref T ∧ NewT o ∧ H T = none ∧ H' = upd H T (.frz o (.tup [x, y])) ∧ (∀ xs, SqB K t H a xs → xs[i]? = some x) ∧ ∀ ys, SqB K u H b ys → ys[i]? = some y,
    fun i H => ∃ xs ys : List V, SqB K t H a xs ∧ SqB K u H b ys ∧ i = min xs.length ys.length⟩
def ItnX (K : PySem.W.Frag) (t : Bool) (a : Addr) : It :=
  ⟨fun i H => ∃ (xs : List V) (x : V), SqB K t H a xs ∧ xs[i]? = some x,
    fun i H v H' => ∃ T o x, v = .ref T ∧ NewT o ∧ H T = none ∧ H' = upd H T (.frz o (.tup [.int (i : Nat), x])) ∧ ∀ xs, SqB K t H a xs → xs[i]? = some x,
    fun i H => ∃ xs : List V, SqB K t H a xs ∧ i = xs.length⟩
theorem turn_enumX {P : Program} {wd : World} {K : PySem.W.Frag} {elts : List Expr} {kk : Nat} {tpos : Pos} {t : Bool} {a e it : Addr} (hne : e ≠ it) (hea : e ≠ a) (hai : a ≠ it) :
    Turn P wd K (.Tuple elts kk tpos) (ItnX K t a) [e, it] e (fun i h => (∃ old, IsEnum h e it ((i : Nat) : Int) old) ∧ ItB t h it a i) where
  mem := by simp
  obj := fun i h ⟨⟨old, he⟩, hi⟩ b hb => by
    rcases (show b = e ∨ b = it by simpa using hb) with z | z
    · rw [z]; exact ⟨_, he, fun v q => nomatch q⟩
    · rw [z]; exact hi.obj
  keep := fun i h h' ⟨⟨old, he⟩, hi⟩ k => ⟨⟨old, k e (by simp) _ he⟩, hi.at fun o q => k it (by simp) o q⟩
  item := by
    intro X hP hw hK hc i pins s σ H E I hf ⟨⟨old, he⟩, hit⟩ hg
    subst hP hw hK
    obtain ⟨xs, x, hq, hx⟩ := hg
    obtain ⟨its, Sv, B⟩ := srcB (it := it) I hc hq hai
    obtain ⟨u, hu, ru⟩ := B.vals.get hx
    have hel : e < s.heap.objs.size := Heap.lt_size he
    have hil : it < s.heap.objs.size := by obtain ⟨_, q, _⟩ := hit.obj; exact Heap.lt_size q
    have hlt : i < its.toArray.size := by
      have hl := B.vals.length
      have := (List.getElem?_eq_some_iff.mp hx).1
      simp; omega
    refine wpAny_pyNext_enum_itemD B.draws he (B.here i hit) hlt hne (by simp [hne, hea]) fun x' h' tk hP ho hst hT hsz hk => ?_
    have ex : x' = u := by
      have : its.toArray[i]? = some u := by simpa using hu
      rw [hP] at this
      exact Option.some.inj this
    subst ex
    refine ⟨_, rfl, wpAny_letOwnedTupleGo_enum (s := { s with heap := h', toks := tk + 1 }) ho fun h'' he' sb => ?_⟩
    have hT2 : h''.get? s.heap.objs.size = some { cls := .type "tuple", data := .seq #[.int i tk, x'] } := (sb.2 _ (Nat.ne_of_gt hel)).trans hT
    have new : ∀ H', ObjOk X.prog X.w H' h'' s.heap.objs.size (.frz { cls := .type "tuple", data := .seq #[.int i tk, x'] } (.tup [.int (i : Nat), x])) := fun H' =>
      tup_obj (xs := [.int (i : Nat), x]) (its := [.int i tk, x']) (.cons ⟨_, rfl⟩ (.cons ru .nil)) (by show 2 ≤ sizeLine; decide) hT2 ⟨rfl, rfl⟩ ⟨_, rfl⟩
    have I1 := I.turnedNew (t' := tk + 1) (ch := [e, it]) (fun b ob hb q => (sb.2 b (fun z => hb (by rw [z]; simp))).trans (hk b ob (fun z => hb (by rw [z]; simp)) (fun z => hb (by rw [z]; simp)) q)) hf (Nat.le_refl _) (new _)
    refine ⟨.ref s.heap.objs.size, _, I1, rfl, ⟨_, _, x, rfl, ⟨rfl, rfl⟩, I.hok.fresh (Nat.le_refl _), rfl, fun ys hy => by rw [sqB_inj I hy hq]; exact hx⟩, ⟨⟨x', ?_⟩, (B.back _ _ hst).at fun o q => (sb.2 it (Ne.symm hne)).trans q⟩, fun b hb => ?_⟩
    · rw [show ((i + 1 : Nat) : Int) = (i : Int) + 1 by omega]; exact he'
    · have hb' : b < s.heap.objs.size := by
        rcases (show b = e ∨ b = it by simpa using hb) with z | z
        · rw [z]; exact hel
        · rw [z]; exact hil
      rw [upd_ne (Nat.ne_of_lt hb')]
      exact (hf b hb).1
  done := by
    intro X hP hw hK hc i pins s σ H E I hf ⟨⟨old, he⟩, hit⟩ hg
    subst hP hw hK
    obtain ⟨xs, hq, hx⟩ := hg
    obtain ⟨its, Sv, B⟩ := srcB (it := it) I hc hq hai
    obtain ⟨f0, f1, f2, f3, f4, f5⟩ := hf it (by simp)
    have e3 : i = its.toArray.size := by
      have hl := B.vals.length
      simp; omega
    subst e3
    exact wpAny_pyNext_enum_endD B.draws he (B.here _ hit) fun h' eb => ⟨rfl, I.turned (t' := s.toks) (fun b o hb q => eb b o hb q) f0 f1 f3 f4 f5⟩
  self := fun A i s Q E ⟨⟨_, he⟩, _⟩ h => wpAny_pyIter_enum he h
structure ZipN (N z TI TO i1 i2 a b : Nat) : Prop where
  ez : z = N + 4
  eI : TI = N + 2
  eO : TO = N + 3
  e1 : i1 = N
  e2 : i2 = N + 1
  la : a < N
  lb : b < N
theorem ne_nat {a b : Nat} (h : a ≠ b) : (show Addr from a) ≠ (show Addr from b) := h
theorem ZipN.ne1 {N z TI TO i1 i2 a b : Nat} (D : ZipN N z TI TO i1 i2 a b) : a ≠ i1 ∧ b ≠ i2 := by
  obtain ⟨_, _, _, h1, h2, la, lb⟩ := D
  omega
theorem ZipN.sep {N z TI TO i1 i2 a b : Nat} (D : ZipN N z TI TO i1 i2 a b) : ZipSep2 z TI TO i1 i2 [i1, a] [i2, b] := by
  obtain ⟨ez, eI, eO, e1, e2, la, lb⟩ := D
  have mem : ∀ {x y z : Nat}, x ≠ y → x ≠ z → x ∉ ([y, z] : List Addr) := fun {x y z} h h' m => by
    rcases List.mem_cons.mp m with q | q
    · exact h q
    · exact h' (List.mem_singleton.mp q)
  exact ⟨ne_nat (by omega), ne_nat (by omega), ne_nat (by omega), ne_nat (by omega), List.mem_cons_self, mem (by omega) (by omega), mem (by omega) (by omega), ne_nat (by omega), List.mem_cons_self, mem (by omega) (by omega), mem (by omega) (by omega), mem (by omega) (by omega), mem (by omega) (by omega)⟩
theorem turn_zipX {P : Program} {wd : World} {K : PySem.W.Frag} {elts : List Expr} {kk : Nat} {tpos : Pos} {t u : Bool} {N a b z TI TO i1 i2 : Addr} (D : ZipN N z TI TO i1 i2 a b) :
    Turn P wd K (.Tuple elts kk tpos) (ItzX K t u a b) [z, TI, TO, i1, i2] z (fun i h => IsZip h z TI TO .none ∧ IsTupOf2 h TI (.ref i1) (.ref i2) ∧ (∃ x y, IsTupOf2 h TO x y) ∧ ItB t h i1 a i ∧ ItB u h i2 b i) where
  mem := by simp
  obj := fun i h ⟨hz, hTI, ⟨x, y, hTO⟩, h1, h2⟩ c hcm => by
    rcases (show c = z ∨ c = TI ∨ c = TO ∨ c = i1 ∨ c = i2 by simpa using hcm) with q | q | q | q | q
    · rw [q]; exact ⟨_, hz, fun v q => nomatch q⟩
    · rw [q]; exact ⟨_, hTI, fun v q => nomatch q⟩
    · rw [q]; exact ⟨_, hTO, fun v q => nomatch q⟩
    · rw [q]; exact h1.obj
    · rw [q]; exact h2.obj
  keep := fun i h h' ⟨hz, hTI, ⟨x, y, hTO⟩, h1, h2⟩ k => ⟨k z (by simp) _ hz, k TI (by simp) _ hTI, ⟨x, y, k TO (by simp) _ hTO⟩, h1.at fun o q => k i1 (by simp) o q, h2.at fun o q => k i2 (by simp) o q⟩
  item := by
    intro X hP hw hK hc i pins s σ H E I hf ⟨hz, hTI, ⟨x0, y0, hTO⟩, h1, h2⟩ hg
    subst hP hw hK
    obtain ⟨xs, ys, x, y, hqx, hqy, hx, hy⟩ := hg
    obtain ⟨hai, hbi⟩ := D.ne1
    obtain ⟨its, S1, B1⟩ := srcB (it := i1) I hc hqx hai
    obtain ⟨itz, S2, B2⟩ := srcB (it := i2) I hc hqy hbi
    obtain ⟨u1, hu1, ru1⟩ := B1.vals.get hx
    obtain ⟨u2, hu2, ru2⟩ := B2.vals.get hy
    have hlt : ∀ {its : List Value} {v : Value}, its[i]? = some v → i < its.toArray.size := fun h => by
      have := (List.getElem?_eq_some_iff.mp h).1
      simpa using this
    have hzl : z < s.heap.objs.size := Heap.lt_size hz
    refine wpAny_pyNext_zipD2_item D.sep B1.draws B2.draws hz hTI hTO (B1.here i h1) (B2.here i h2) (hlt hu1) (hlt hu2) fun v1 v2 h' tk p1 p2 z' TO' s1 s2 hT hsz hk => ?_
    have ev : ∀ {its : List Value} {v w : Value}, its.toArray[i]? = some v → its[i]? = some w → v = w := fun {its v w} h h' => by
      have : its.toArray[i]? = some w := by simpa using h'
      rw [h] at this
      exact Option.some.inj this
    have e1 := ev p1 hu1
    have e2 := ev p2 hu2
    subst e1 e2
    refine ⟨_, rfl, wpAny_letOwnedTupleGo_zip (s := { s with heap := h', toks := tk }) z' fun h'' z'' sb => ?_⟩
    have hT2 : h''.get? s.heap.objs.size = some { cls := .type "tuple", data := .seq #[v1, v2] } := (sb.2 _ (Nat.ne_of_gt hzl)).trans hT
    have new : ∀ H', ObjOk X.prog X.w H' h'' s.heap.objs.size (.frz { cls := .type "tuple", data := .seq #[v1, v2] } (.tup [x, y])) := fun H' =>
      tup_obj (its := [v1, v2]) (.cons ru1 (.cons ru2 .nil)) (by show 2 ≤ sizeLine; decide) hT2 ⟨rfl, rfl⟩ ⟨_, rfl⟩
    have far : ∀ c, c ∉ [z, TI, TO, i1, i2] → c ≠ z ∧ c ≠ TO ∧ c ≠ i1 ∧ c ≠ i2 := fun c hc => by
      simp only [List.mem_cons, List.not_mem_nil, or_false, not_or] at hc
      exact ⟨hc.1, hc.2.2.1, hc.2.2.2.1, hc.2.2.2.2⟩
    have I1 := I.turnedNew (t' := tk) (ch := [z, TI, TO, i1, i2]) (fun c o hb q => (sb.2 c (far c hb).1).trans (hk c o (far c hb).1 (far c hb).2.1 (far c hb).2.2.1 (far c hb).2.2.2 q)) hf (Nat.le_refl _) (new _)
    have dd := D.sep
    have nz : TI ≠ z ∧ TO ≠ z ∧ TI ≠ TO ∧ TI ≠ i1 ∧ TI ≠ i2 := ⟨dd.TIz, dd.TOz, dd.TITO, dd.TIi1, dd.TIi2⟩
    refine ⟨.ref s.heap.objs.size, _, I1, rfl, ⟨_, _, x, y, rfl, ⟨rfl, rfl⟩, I.hok.fresh (Nat.le_refl _), rfl, fun l hl => by rw [sqB_inj I hl hqx]; exact hx, fun l hl => by rw [sqB_inj I hl hqy]; exact hy⟩, ⟨z'', ?_, ⟨v1, v2, ?_⟩, ?_, ?_⟩, fun c hcm => ?_⟩
    · exact (sb.2 _ nz.1).trans (hk _ _ nz.1 nz.2.2.1 nz.2.2.2.1 nz.2.2.2.2 hTI)
    · exact (sb.2 _ nz.2.1).trans TO'
    · exact (B1.back _ _ s1).at fun o q => (sb.2 _ (fun e => dd.zi1 e.symm)).trans q
    · exact (B2.back _ _ s2).at fun o q => (sb.2 _ (fun e => dd.zi2 e.symm)).trans q
    · have hlt' : c < s.heap.objs.size := by
        rcases (show c = z ∨ c = TI ∨ c = TO ∨ c = i1 ∨ c = i2 by simpa using hcm) with q | q | q | q | q
        · rw [q]; exact hzl
        · rw [q]; exact Heap.lt_size hTI
        · rw [q]; exact Heap.lt_size hTO
        · rw [q]; obtain ⟨_, e1, _⟩ := h1.obj; exact Heap.lt_size e1
        · rw [q]; obtain ⟨_, e2, _⟩ := h2.obj; exact Heap.lt_size e2
      rw [upd_ne (Nat.ne_of_lt hlt')]
      exact (hf c hcm).1
  done := by
    intro X hP hw hK hc i pins s σ H E I hf ⟨hz, hTI, ⟨x0, y0, hTO⟩, h1, h2⟩ hg
    subst hP hw hK
    obtain ⟨xs, ys, hqx, hqy, hend⟩ := hg
    obtain ⟨hai, hbi⟩ := D.ne1
    obtain ⟨its, S1, B1⟩ := srcB (it := i1) I hc hqx hai
    obtain ⟨itz, S2, B2⟩ := srcB (it := i2) I hc hqy hbi
    have l1 := B1.vals.length
    have l2 := B2.vals.length
    exact wpAny_pyNext_zipD2_end D.sep B1.draws B2.draws hz hTI hTO (B1.here i h1) (B2.here i h2) (by rw [List.size_toArray, ← l1, hend]; exact Nat.min_le_left _ _) (by rw [List.size_toArray, ← l2, hend]; exact Nat.min_le_right _ _) (by rw [List.size_toArray, List.size_toArray, ← l1, ← l2, hend]; exact (Nat.le_total xs.length ys.length).imp (fun h => Nat.min_eq_left h) fun h => Nat.min_eq_right h) fun h' tk hk => ⟨rfl, I.turnedL (t' := tk) (ch := [z, TI, TO, i1, i2]) (fun c o hb q => by
      simp only [List.mem_cons, List.not_mem_nil, or_false, not_or] at hb
      exact hk c o hb.1 hb.2.2.1 hb.2.2.2.1 hb.2.2.2.2 q) hf⟩
  self := fun A i s Q E stt h => wpAny_pyIter_zip stt.1 h
section
variable {X : Cx} {e e2 : Expr} {ta : TA} {p pos tpos : Pos} {elts : List Expr} {kk : Nat}
def iZipX (K : PySem.W.Frag) (ta : TA) : TI := fun σ H R => ta σ H fun vs H1 => ∃ t u a b xs ys, vs = [.ref a, .ref b] ∧ SqB K t H1 a xs ∧ SqB K u H1 b ys ∧ R (ItzX K t u a b) H1
theorem pi_zipX (hg : Gl X "zip") (hm : X.mg "zip" = none) (ha : PA X [e, e2] ta) (hs : starEach [e, e2] X.env = (false, eval e X.env) :: starEach [e2] X.env := by rfl) (hpl : (backTo pos (starEach [e2] X.env)).any (·.1) = false := by rfl) :
    PI X (.Tuple elts kk tpos) (.Call (.Name "zip" p) [e, e2] [] pos) (iZipX X.K ta) := by
  refine ⟨fun pins st σ H R I h => ?_⟩
  refine Call_ (ld_blt I hg hm PyProof.Rows.boot_zip (PyProof.Rows.callWith_type1 (thn (ha.run pos pins st σ H _ I h) fun us s1 ⟨vs, H1, I1, r1, q1⟩ => ?_) hs hpl))
  obtain ⟨t, u, a, b, xs, ys, ex, hqx, hqy, q⟩ := q1
  subst ex
  cases r1 with
  | cons r rr =>
    cases rr with
    | cons r' rr =>
      cases rr
      cases r
      cases r'
      obtain ⟨Ha, Ba, ha1, la⟩ := begB_of I1 hqx
      obtain ⟨Hb, Bb, hb1, lb⟩ := begB_of I1 hqy
      refine zip_begins2 Ba Bb ha1 hb1 fun h' hz hTI hTO g1 g2 _ hk => wpAny_pyIter_zip hz ?_
      refine ⟨_, _, _, _, H1, rfl, I1.kept (t' := s1.toks) hk, turn_zipX (N := s1.heap.objs.size) ⟨rfl, rfl, rfl, rfl, rfl, la, lb⟩, ⟨hz, hTI, ⟨_, _, hTO⟩, begB_it g1, begB_it g2⟩, fun c hcm => ?_, q⟩
      have hle : s1.heap.objs.size ≤ c := by
        rcases (show c = s1.heap.objs.size + 4 ∨ c = s1.heap.objs.size + 2 ∨ c = s1.heap.objs.size + 3 ∨ c = s1.heap.objs.size ∨ c = s1.heap.objs.size + 1 by simpa using hcm) with z | z | z | z | z <;> rw [z] <;> omega
      exact I1.fpOk hle (I1.hok.fresh hle)
def iEnumX (K : PySem.W.Frag) (ta : TA) : TI := fun σ H R => ta σ H fun vs H1 => ∃ t a xs, vs = [.ref a] ∧ SqB K t H1 a xs ∧ R (ItnX K t a) H1
theorem pi_enumX (hg : Gl X "enumerate") (hm : X.mg "enumerate" = none) (ha : PA X [e] ta) (hs : starEach [e] X.env = [(false, eval e X.env)] := by rfl) :
    PI X (.Tuple elts kk tpos) (.Call (.Name "enumerate" p) [e] [] pos) (iEnumX X.K ta) := by
  refine ⟨fun pins st σ H R I h => ?_⟩
  refine Call_ (ld_blt I hg hm boot_enumerate (PyProof.Rows.callWith_type1 (thn (ha.run pos pins st σ H _ I h) fun us s1 ⟨vs, H1, I1, r1, q1⟩ => ?_) hs rfl))
  obtain ⟨t, a, xs, ex, hq, q⟩ := q1
  subst ex
  cases r1 with
  | cons r rr =>
    cases rr
    cases r
    have fr : ∀ b ∈ [s1.heap.objs.size + 1, s1.heap.objs.size], FpOk X pins H1 b := fun b hb => by
      have hle : s1.heap.objs.size ≤ b := by
        rcases (show b = s1.heap.objs.size + 1 ∨ b = s1.heap.objs.size by simpa using hb) with z | z <;> rw [z] <;> omega
      exact I1.fpOk hle (I1.hok.fresh hle)
    obtain ⟨Hb, Bb, hb1, la⟩ := begB_of I1 hq
    cases t with
    | false =>
      obtain ⟨its, rv, p', hz⟩ := I1.list hq
      refine call_enumerate_list p'.isList fun h' he hit _ hk => wpAny_pyIter_enum he ?_
      exact ⟨_, _, _, _, H1, rfl, I1.kept (t' := s1.toks) hk, turn_enumX (t := false) (a := a) (e := s1.heap.objs.size + 1) (it := s1.heap.objs.size) (Nat.succ_ne_self _) (ne_nat (Nat.ne_of_gt (Nat.lt_succ_of_lt la))) (ne_nat (Nat.ne_of_lt la)), ⟨⟨.none, he⟩, hit⟩, fr, q⟩
    | true =>
      obtain ⟨its, rv, p', hz⟩ := I1.tuple hq
      refine enumT_call (show s1.heap.IsTuple a its.toArray from p') fun h' he hit hk => wpAny_pyIter_enum he ?_
      exact ⟨_, _, _, _, H1, rfl, I1.kept (t' := s1.toks) hk, turn_enumX (t := true) (a := a) (e := s1.heap.objs.size + 1) (it := s1.heap.objs.size) (Nat.succ_ne_self _) (ne_nat (Nat.ne_of_gt (Nat.lt_succ_of_lt la))) (ne_nat (Nat.ne_of_lt la)), ⟨⟨.none, he⟩, hit⟩, fr, q⟩
end
end Dn

set_option Elab.async false
set_option linter.all false
set_option maxRecDepth 100000
namespace Dn
open PySem PySem.Spec PyProof.Rows L2

/-! ## what a thing given is, by its value -/
section
variable {K : PySem.W.Frag} {G : Gh} {Z Z' Z0 Z1 Z2 : Addr → Prop} {H H' H0 H1 H2 : Hp} {Fin F F1 F2 : List Addr} {d : D} {v : V}
theorem sc_val {i : D} {w : V} (h : Tmp K G Z H d v F) (e : scV d = some w) : v = w := by
  have t := h.t
  cases t with
  | sc e' _ => rw [e] at e'; exact (Option.some.inj e').symm
  | _ => simp [scV] at e
theorem int_val {i : Int} (h : Tmp K G Z H (.int i) v F) : v = .int i := sc_val (i := .non) h rfl
theorem bl_val {i : Bool} (h : Tmp K G Z H (.bl i) v F) : v = .bl i := sc_val (i := .non) h rfl
theorem str_val {i : Str} (h : Tmp K G Z H (.str i) v F) : v = .str i := sc_val (i := .non) h rfl
theorem non_val (h : Tmp K G Z H .non v F) : v = .non := sc_val (i := .non) h rfl
theorem tup_val {xs : List D} (h : Tmp K G Z H (.tup xs) v F) : ∃ p ws, v = .ref p ∧ TupX K H p ws ∧ RepL K (G.zs Z) H .frz xs ws [] ∧ F = [] := by
  rcases h with ⟨a, _⟩ | ⟨_, h⟩
  · cases a
  · cases h with
    | sc e _ => simp [scV] at e
    | tup e h1 h => cases h; exact ⟨_, _, rfl, e, h1, rfl⟩
/-- a list's object, its items read as they may be read: mode m -/
theorem lst_val {f : Fl} {xs : List D} (h : Tmp K G Z H (.lst f xs) v F) : ∃ p ws F', v = .ref p ∧ H p = some (.lst ws) ∧ RepL K (G.zt Z) H f xs ws F' ∧ (f ≠ .own → F' = []) ∧ (f = .own → F = p :: F') ∧ (f ≠ .bor → RepL K (G.zs Z) H f xs ws F') := by
  rcases h with ⟨a, rfl, h⟩ | ⟨a, h⟩
  · have ef : f = .bor := by cases f <;> simp_all [topBor]
    subst ef
    cases h with
    | sc e _ => simp [scV] at e
    | shr e0 e1 e2 h1 h =>
      cases h
      cases e0
      exact ⟨_, _, [], rfl, e2, h1, fun _ => rfl, fun z => (nomatch z), fun n => absurd rfl n⟩
  · cases h with
    | sc e _ => simp [scV] at e
    | own e e2 h1 h =>
      cases h
      cases e
      exact ⟨_, _, _, rfl, e2, h1.toT, fun n => absurd rfl n, fun _ => by simp, fun _ => h1⟩
    | shr e0 e1 e2 h1 h =>
      cases h
      cases e0
      exact ⟨_, _, [], rfl, e2, h1.toT, fun _ => rfl, fun z => by subst z; exact e1.elim, fun _ => h1⟩
theorem pot_val (h : Tmp K G Z H .pot v F) : ∃ p, v = .ref p ∧ G.pot = some p := by
  rcases h with ⟨a, _⟩ | ⟨_, h⟩
  · cases a
  · cases h with
    | sc e _ => simp [scV] at e
    | pot e h => exact ⟨_, rfl, e⟩
theorem dic_val {f : Fl} {xs : List (D × D)} (h : Tmp K G Z H (.dic f xs) v F) : ∃ p o kws ws F', v = .ref p ∧ H p = some o ∧ DObj p (xs.map (·.1)) kws ws o ∧ RepL K (G.zt Z) H f (kvL xs) (kws ++ ws) F' ∧ (f ≠ .own → F' = []) ∧ (f = .own → F = p :: F') ∧ (f ≠ .bor → RepL K (G.zs Z) H f (kvL xs) (kws ++ ws) F') := by
  rcases h with ⟨a, rfl, h⟩ | ⟨a, h⟩
  · have ef : f = .bor := by cases f <;> simp_all [topBor]
    subst ef
    cases h with
    | sc e _ => simp [scV] at e
    | dshr e0 e1 e2 e3 h1 h =>
      cases h
      cases e0
      exact ⟨_, _, _, _, [], rfl, e2, e3, h1, fun _ => rfl, fun z => (nomatch z), fun n => absurd rfl n⟩
  · cases h with
    | sc e _ => simp [scV] at e
    | down e e2 e3 h1 h =>
      cases h
      cases e
      exact ⟨_, _, _, _, _, rfl, e2, e3, h1.toT, fun n => absurd rfl n, fun _ => by simp, fun _ => h1⟩
    | dshr e0 e1 e2 e3 h1 h =>
      cases h
      cases e0
      exact ⟨_, _, _, _, [], rfl, e2, e3, h1.toT, fun _ => rfl, fun z => by subst z; exact e1.elim, fun _ => h1⟩
/-- an item taken out of what may only be read -/
theorem tmp_out {g : Fl} (h : RepL K (G.zt Z) H g [d] [v] []) (n : g ≠ .own) (hb : g ≠ .bor → RepL K (G.zs Z) H g [d] [v] []) : Tmp K G Z H (deg g d) v [] := by
  by_cases e : topBor (deg g d) = true
  · exact .inl ⟨e, rfl, h.out n⟩
  · have e' : topBor (deg g d) = false := by simpa using e
    by_cases eg : g = .bor
    · subst eg
      -- not a list: nothing is borrowed
      cases h with
      | sc e1 h => cases h; exact tmp_sc (by cases d <;> simp_all [deg, scV])
      | pot e1 h => exact .inr ⟨rfl, .pot e1 .nil⟩
      | tup e1 h1 h => exact .inr ⟨rfl, .tup e1 (h1.carry (fun _ z => z) (fun _ z => z) (fun z => z.elim) (fun _ z => z) (fun _ _ _ e => e) fun _ _ e => e) .nil⟩
      | @shr m f g p ws xs ds vs F e0 e1 e2 h1 h =>
        refine .inr ⟨e', ?_⟩
        show RepL K (G.zs Z) H .own [.lst ((eff .bor f).getD .bor) _] _ _
        cases f <;> simp [eff] at e0 <;> subst e0
        · simp [deg, eff, topBor] at e'
        · exact .shr rfl e1 e2 (h1.carry (fun _ z => z) (fun _ z => z) (fun z => z.elim) (fun _ z => z) (fun _ _ _ e => e) fun _ _ e => e) .nil
        · simp [deg, eff, topBor] at e'
        · simp [deg, eff, topBor] at e'
      | @dshr m f g p o kvs kws ws ds vs F e0 e1 e2 e3 h1 h =>
        refine .inr ⟨e', ?_⟩
        show RepL K (G.zs Z) H .own [.dic ((eff .bor f).getD .bor) _] _ _
        cases f <;> simp [eff] at e0 <;> subst e0
        · simp [deg, eff, topBor] at e'
        · exact .dshr rfl e1 e2 e3 (h1.carry (fun _ z => z) (fun _ z => z) (fun z => z.elim) (fun _ z => z) (fun _ _ _ e => e) fun _ _ e => e) .nil
        · simp [deg, eff, topBor] at e'
        · simp [deg, eff, topBor] at e'
    · exact .inr ⟨e', (hb eg).out n⟩
end

/-! ## tests -/
def testE (e : Env → T D) : Env → T Bool := fun env => (e env).bind fun d => match d with
  | .bl b => .ret b
  | _ => .fail
def andT (a b : Env → T Bool) : Env → T Bool := fun env => (a env).bind fun k => if k then b env else .ret false
def orT (a b : Env → T Bool) : Env → T Bool := fun env => (a env).bind fun k => if k then .ret true else b env
def notT (a : Env → T Bool) : Env → T Bool := fun env => (a env).bind fun k => .ret !k
def ofT (a : Env → T Bool) : Env → T D := fun env => (a env).bind fun k => .ret (.bl k)
def andE (a b : Env → T D) : Env → T D := fun env => (testE a env).bind fun k => if k then b env else .ret (.bl false)
def orE (a b : Env → T D) : Env → T D := fun env => (testE a env).bind fun k => if k then .ret (.bl true) else b env
def notE (a : Env → T D) : Env → T D := fun env => (testE a env).bind fun k => .ret (.bl !k)
def ifE (c : Env → T Bool) (a b : Env → T D) : Env → T D := fun env => (c env).bind fun k => if k then a env else b env
section
variable {K : PySem.W.Frag} {G : Gh} {σ : L2.St} {H : Hp} {e a b : Env → T D} {c c' : Env → T Bool}
theorem testE_holds {Q : Bool → Prop} {env : Env} (h : (testE e env).Holds Q) : (e env).Holds fun d => ∃ k, d = .bl k ∧ Q k :=
  (T.holds_bind h).mono fun d h => by
    cases d with
    | bl k => exact ⟨k, rfl, h⟩
    | _ => exact h.elim
theorem rdT_e {Q : Bool → Hp → Prop} (h : RdT K G (testE e) σ H Q) : tB (RdE K G e) σ H Q := by
  obtain ⟨Z, env, S, h⟩ := h
  refine ⟨Z, env, S, (testE_holds h).mono fun d ⟨k, ed, h⟩ Z' v H' F o => ?_⟩
  subst ed
  exact ⟨k, bl_val o.tmp, h Z' H' o.go⟩
theorem rdT_and {Q : Bool → Hp → Prop} (h : RdT K G (andT c c') σ H Q) : tAnd (RdT K G c) (RdT K G c') σ H Q := by
  obtain ⟨Z, env, S, h⟩ := h
  refine ⟨Z, env, S, (T.holds_bind h).mono fun k h Z' H' g => ?_⟩
  cases k with
  | true => exact ⟨Z', env, S.go g, h.mono fun b h Z2 H2 g2 => h Z2 H2 (g.trans g2)⟩
  | false => exact h Z' H' g
theorem rdT_or {Q : Bool → Hp → Prop} (h : RdT K G (orT c c') σ H Q) : tOr (RdT K G c) (RdT K G c') σ H Q := by
  obtain ⟨Z, env, S, h⟩ := h
  refine ⟨Z, env, S, (T.holds_bind h).mono fun k h Z' H' g => ?_⟩
  cases k with
  | true => exact h Z' H' g
  | false => exact ⟨Z', env, S.go g, h.mono fun b h Z2 H2 g2 => h Z2 H2 (g.trans g2)⟩
theorem rdT_not {Q : Bool → Hp → Prop} (h : RdT K G (notT c) σ H Q) : tNot (RdT K G c) σ H Q := by
  obtain ⟨Z, env, S, h⟩ := h
  exact ⟨Z, env, S, (T.holds_bind h).mono fun k h Z' H' g => h Z' H' g⟩
theorem ExOut.from {Z Z1 : Addr → Prop} {H1 : Hp} {d : D} {Z' : Addr → Prop} {v : V} {H' : Hp} {F : List Addr} (o : ExOut K G Z1 H1 d Z' v H' F) (g : Go G Z H Z1 H1) : ExOut K G Z H d Z' v H' F :=
  ⟨g.trans o.go, o.tmp, o.new.back g.grow⟩
theorem rdE_and {Q : VK} (h : RdE K G (andE a b) σ H Q) : tAndV (RdE K G a) (RdE K G b) σ H Q := by
  obtain ⟨Z, env, S, h⟩ := h
  refine ⟨Z, env, S, (testE_holds (T.holds_bind h)).mono fun d ⟨k, ed, h⟩ Z' v H' F o => ?_⟩
  subst ed
  refine ⟨k, bl_val o.tmp, ?_⟩
  cases k with
  | true => exact ⟨Z', env, S.go o.go, h.mono fun d h Z2 v H2 F o2 => h Z2 v H2 F (o2.from o.go)⟩
  | false => exact h Z' _ H' [] ⟨o.go, tmp_sc rfl, .nil⟩
theorem rdE_or {Q : VK} (h : RdE K G (orE a b) σ H Q) : tOrV (RdE K G a) (RdE K G b) σ H Q := by
  obtain ⟨Z, env, S, h⟩ := h
  refine ⟨Z, env, S, (testE_holds (T.holds_bind h)).mono fun d ⟨k, ed, h⟩ Z' v H' F o => ?_⟩
  subst ed
  refine ⟨k, bl_val o.tmp, ?_⟩
  cases k with
  | false => exact ⟨Z', env, S.go o.go, h.mono fun d h Z2 v H2 F o2 => h Z2 v H2 F (o2.from o.go)⟩
  | true => exact h Z' _ H' [] ⟨o.go, tmp_sc rfl, .nil⟩
theorem rdE_not {Q : VK} (h : RdE K G (notE a) σ H Q) : tNotV (RdE K G a) σ H Q := by
  obtain ⟨Z, env, S, h⟩ := h
  refine ⟨Z, env, S, (testE_holds (T.holds_bind h)).mono fun d ⟨k, ed, h⟩ Z' v H' F o => ?_⟩
  subst ed
  exact ⟨k, bl_val o.tmp, h Z' _ H' [] ⟨o.go, tmp_sc rfl, .nil⟩⟩
theorem rdE_if {Q : VK} (h : RdE K G (ifE c a b) σ H Q) : tIf (RdT K G c) (RdE K G a) (RdE K G b) σ H Q := by
  obtain ⟨Z, env, S, h⟩ := h
  refine ⟨Z, env, S, (T.holds_bind h).mono fun k h Z' H' g => ?_⟩
  cases k with
  | true => exact ⟨Z', env, S.go g, h.mono fun b h Z2 v H2 F o => h Z2 v H2 F (o.from g)⟩
  | false => exact ⟨Z', env, S.go g, h.mono fun b h Z2 v H2 F o => h Z2 v H2 F (o.from g)⟩
end
section
variable {X : Cx} {G : Gh} {e a b c : Expr} {rest : List Expr} {pos : Pos} {de da db : Env → T D} {dc dc' : Env → T Bool}
theorem tt_e (h : PE X e (RdE X.K G de)) (he : ∀ whole, isTrue e X.env whole = (do let v ← whole; standAt e.pos; holding [v] (truthy v)) := by intro _; rfl) : PT X e (RdT X.K G (testE de)) := PT.imp (pt_val h he) fun _ _ _ h => rdT_e h
theorem tt_cmp {op : CmpOp} {r : R2} {o : D → D → T D} (hr : OpR X (compareOp op) r) (ho : Op2 X.K G r o) (ha : PE X a (RdE X.K G da)) (hb : PE X b (RdE X.K G db)) (hm : behindInMarks op b = false) : PT X (.Compare a [op] [b] pos) (RdT X.K G (testE (bin2 o da db))) :=
  PT.imp (pt_cmpR hr ha hb hm) fun σ H Q h => by
    obtain ⟨Z, env, S, h⟩ := h
    have h2 : RdE X.K G (bin2 o da db) σ H fun x H1 => ∃ k, x = .bl k ∧ Q k H1 := ⟨Z, env, S, (testE_holds h).mono fun d ⟨k, ed, h⟩ Z' v H' F o => by
      subst ed
      exact ⟨k, bl_val o.tmp, h Z' H' o.go⟩⟩
    exact rd2 ho h2
theorem tt_not (h : PT X a (RdT X.K G dc)) : PT X (.UnaryOp .Not a pos) (RdT X.K G (notT dc)) := PT.imp (pt_not h) fun _ _ _ h => rdT_not h
theorem tw_and (ha : PT X a (RdT X.K G dc)) (hb : PW X (.BoolOp .And (b :: rest) pos) (RdT X.K G dc')) : PW X (.BoolOp .And (a :: b :: rest) pos) (RdT X.K G (andT dc dc')) := PW.imp (pw_and ha hb) fun _ _ _ h => rdT_and h
theorem tw_and1 (ha : PT X a (RdT X.K G dc)) : PW X (.BoolOp .And [a] pos) (RdT X.K G dc) := pw_and1 ha
theorem tw_or (ha : PT X a (RdT X.K G dc)) (hb : PW X (.BoolOp .Or (b :: rest) pos) (RdT X.K G dc')) : PW X (.BoolOp .Or (a :: b :: rest) pos) (RdT X.K G (orT dc dc')) := PW.imp (pw_or ha hb) fun _ _ _ h => rdT_or h
theorem tw_or1 (ha : PT X a (RdT X.K G dc)) : PW X (.BoolOp .Or [a] pos) (RdT X.K G dc) := pw_or1 ha
theorem ee_and (ha : PE X a (RdE X.K G da)) (hb : PE X (.BoolOp .And (b :: rest) pos) (RdE X.K G db)) : PE X (.BoolOp .And (a :: b :: rest) pos) (RdE X.K G (andE da db)) := PE.imp (pe_and ha hb) fun _ _ _ h => rdE_and h
theorem ee_or (ha : PE X a (RdE X.K G da)) (hb : PE X (.BoolOp .Or (b :: rest) pos) (RdE X.K G db)) : PE X (.BoolOp .Or (a :: b :: rest) pos) (RdE X.K G (orE da db)) := PE.imp (pe_or ha hb) fun _ _ _ h => rdE_or h
theorem ee_one {op} (h : PE X a (RdE X.K G da)) : PE X (.BoolOp op [a] pos) (RdE X.K G da) := pe_one h
theorem ee_not (h : PE X a (RdE X.K G da)) : PE X (.UnaryOp .Not a pos) (RdE X.K G (notE da)) := PE.imp (pe_not h) fun _ _ _ h => rdE_not h
theorem ee_if (hc : PT X c (RdT X.K G dc)) (ha : PE X a (RdE X.K G da)) (hb : PE X b (RdE X.K G db)) : PE X (.IfExp c a b pos) (RdE X.K G (ifE dc da db)) := PE.imp (pe_ifExp hc ha hb) fun _ _ _ h => rdE_if h
end

/-! ## operators -/
section
variable {K : PySem.W.Frag} {G : Gh} {X : Cx}
theorem size_small {n : Nat} (h : n ≤ 1000000) : n ≤ sizeLine := by rw [sizeLine_eq]; omega
theorem size_lt {n : Nat} (h : n ≤ 1000000) : n < sizeLine := by rw [sizeLine_eq]; omega
def D.sub : D → D → T D
  | .int i, .int j => .ret (.int (i - j))
  | _, _ => .fail
def D.mod : D → D → T D
  | .int i, .int j => if 0 < j then .ret (.int (i % j)) else .fail
  | _, _ => .fail
def D.fdiv : D → D → T D
  | .int i, .int j => if 0 < j ∧ j < 1073741824 then .ret (.int (i / j)) else .fail
  | _, _ => .fail
def D.pow : D → D → T D
  | .int i, .int j => if 0 ≤ j ∧ j ≤ 1000000 ∧ i.natAbs < 2 ^ 64 then .ret (.int (i ^ j.toNat)) else .fail
  | _, _ => .fail
def D.neg : D → T D
  | .int i => .ret (.int (-i))
  | _ => .fail
theorem o_sub : Op2 K G (rI0 fun i j => .int (i - j)) D.sub := by
  intro Z H d1 v1 F1 d2 v2 F2 Q t1 t2 p h
  cases d1 <;> cases d2 <;> first | exact h.elim | skip
  exact ⟨_, _, int_val t1, int_val t2, h Z _ H [] (.int p _)⟩
theorem ite_holds {α : Type} {Q : α → Prop} {c : Prop} [Decidable c] {a : T α} (h : (if c then a else .fail).Holds Q) : c ∧ a.Holds Q := by
  by_cases e : c
  · rw [if_pos e] at h; exact ⟨e, h⟩
  · rw [if_neg e] at h; exact h.elim
theorem o_mod : Op2 K G (rI (fun _ j => 0 < j) fun i j => .int (i % j)) D.mod := by
  intro Z H d1 v1 F1 d2 v2 F2 Q t1 t2 p h
  cases d1 <;> cases d2 <;> first | exact h.elim | skip
  obtain ⟨c, h⟩ := ite_holds h
  exact ⟨_, _, int_val t1, int_val t2, c, h Z _ H [] (.int p _)⟩
theorem o_fdiv : Op2 K G (rI CDiv fun i j => .int (i / j)) D.fdiv := by
  intro Z H d1 v1 F1 d2 v2 F2 Q t1 t2 p h
  cases d1 <;> cases d2 <;> first | exact h.elim | skip
  obtain ⟨c, h⟩ := ite_holds h
  exact ⟨_, _, int_val t1, int_val t2, c, h Z _ H [] (.int p _)⟩
theorem o_pow : Op2 K G (rI CPow fun i j => .int (i ^ j.toNat)) D.pow := by
  intro Z H d1 v1 F1 d2 v2 F2 Q t1 t2 p h
  cases d1 <;> cases d2 <;> first | exact h.elim | skip
  obtain ⟨c, h⟩ := ite_holds h
  exact ⟨_, _, int_val t1, int_val t2, c, h Z _ H [] (.int p _)⟩
theorem o_neg : Op1 K G (rU fun i => .int (-i)) D.neg := by
  intro Z H d1 v1 F1 Q t1 p h
  cases d1 <;> first | exact h.elim | skip
  exact ⟨_, int_val t1, h Z _ H [] (.int p _)⟩
/-- a new tuple whose items were there -/
theorem OpOut.tup0 {Z : Addr → Prop} {H : Hp} {Fin : List Addr} {ds : List D} {vs : List V} {p : Addr} (pr : Pre K G Z H Fin) (t : RepL K (G.zs Z) H .frz ds vs []) {o : Obj} (ho : NewT o) (n : H p = none) :
    OpOut K G Z H Fin (.tup ds) Z (.ref p) (upd H p (.frz o (.tup vs))) [] where
  grow := .mk1 n
  potB := upd_pot pr.pot n
  zle := fun _ h => h
  znew := fun q h => .inl h
  zB := fun q h => ⟨upd_ne_none (pr.zf q h).1, (pr.zf q h).2⟩
  tmp := .inr ⟨rfl, .tup (.new ho) ((Go.new pr.pot pr.zf n).repS t fun _ z => nomatch z) .nil⟩
  own := fun _ h => nomatch h
  nd := .nil
theorem OpOut.tupS {Z : Addr → Prop} {H : Hp} {Fin : List Addr} {ds : List D} {vs : List V} {p : Addr} (pr : Pre K G Z H Fin) (t : RepL K (G.zs Z) H .frz ds vs []) (n : TupX K H p vs) :
    OpOut K G Z H Fin (.tup ds) Z (.ref p) H [] := .same pr (.inr ⟨rfl, .tup n t .nil⟩)
theorem RepL.app0 {Z : Addr → Prop} {H : Hp} {xs ys : List D} {ws us : List V} (a : RepL K (G.zs Z) H .frz xs ws []) (b : RepL K (G.zs Z) H .frz ys us []) : RepL K (G.zs Z) H .frz (xs ++ ys) (ws ++ us) [] := RepL.append a b
/-- two lists, one behind the other: nothing in them is owned -/
theorem RepL.bors {Z : Addr → Prop} {H : Hp} {m : Fl} {F : List Addr} {xs : List D} {ws : List V} (h : RepL K (G.zt Z) H m xs ws F) (n : ∀ p ∈ F, some p ≠ G.pot) (hz : ∀ p, Z p → some p ≠ G.pot) : RepL K (G.zt Z) H .bor xs ws [] :=
  h.demote (by decide) (fun z => nomatch z) (fun z => nomatch z) (fun _ z => z) (fun _ z => z) (fun _ z => z) (fun p o _ hp => n p hp) (fun _ p o _ hp => by
    rcases hp with z | z | z
    · exact hz p z
    · exact z.2
    · exact z)
/-- a new list of items none of which is a list -/
def flatD : D → Bool
  | .lst .frz _ => true
  | .dic .frz _ => true
  | .lst _ _ => false
  | .dic _ _ => false
  | _ => true
theorem eff_frz {m g : Fl} (e : eff m .frz = some g) : g = .frz := by cases m <;> (cases e; rfl)
theorem eff_frz2 (m : Fl) : eff m .frz = some .frz := by cases m <;> rfl
theorem flat_nb {d : D} (h : flatD d = true) : topBor d = false := by
  cases d with
  | lst f xs => cases f <;> first | rfl | cases h
  | dic f xs => cases f <;> first | rfl | cases h
  | _ => rfl
theorem flat_lst {f : Fl} {xs : List D} (h : flatD (.lst f xs) = true) : f = .frz := by cases f <;> first | rfl | cases h
theorem flat_dic {f : Fl} {xs : List (D × D)} (h : flatD (.dic f xs) = true) : f = .frz := by cases f <;> first | rfl | cases h
theorem RepL.flat {Z : Zs} {Z' : Zs} {H : Hp} {m m' : Fl} {xs : List D} {ws : List V} {F : List Addr} (h : RepL K Z H m xs ws F) (hf : ∀ p, Z.f p → Z'.f p) (ha : ∀ p, Z.a p → Z'.a p) (hp : ∀ p, Z.pot = some p → Z'.pot = some p) :
    xs.all flatD = true → RepL K Z' H m' xs ws [] := by
  induction h with
  | nil => intro _; exact .nil
  | sc e _ ih =>
    intro c
    rw [List.all_cons, Bool.and_eq_true] at c
    exact .sc e (ih c.2)
  | pot e _ ih =>
    intro c
    rw [List.all_cons, Bool.and_eq_true] at c
    exact .pot (hp _ e) (ih c.2)
  | tup e h1 _ _ ih2 =>
    intro c
    rw [List.all_cons, Bool.and_eq_true] at c
    exact .tup e (h1.carry hf ha (fun z => z.elim) hp (fun _ _ _ e => e) fun _ _ e => e) (ih2 c.2)
  | own e _ _ _ _ _ =>
    intro c
    rw [List.all_cons, Bool.and_eq_true] at c
    cases flat_lst c.1
    cases eff_frz e
  | shr e e1 e2 h1 _ _ ih2 =>
    intro c
    rw [List.all_cons, Bool.and_eq_true] at c
    cases flat_lst c.1
    cases eff_frz e
    exact .shr (eff_frz2 _) (hf _ e1) e2 (h1.carry hf ha (fun z => z.elim) hp (fun _ _ _ e => e) fun _ _ e => e) (ih2 c.2)
  | down e _ _ _ _ _ _ =>
    intro c
    rw [List.all_cons, Bool.and_eq_true] at c
    cases flat_dic c.1
    cases eff_frz e
  | dshr e e1 e2 e3 h1 _ _ ih2 =>
    intro c
    rw [List.all_cons, Bool.and_eq_true] at c
    cases flat_dic c.1
    cases eff_frz e
    exact .dshr (eff_frz2 _) (hf _ e1) e2 e3 (h1.carry hf ha (fun z => z.elim) hp (fun _ _ _ e => e) fun _ _ e => e) (ih2 c.2)
/-- a new list: owned if all in it is flat, else borrowed -/
def newL (xs : List D) : D := .lst (if xs.all flatD then .own else .bor) xs
theorem OpOut.newL {Z : Addr → Prop} {H : Hp} {Fin F : List Addr} {m : Fl} {xs : List D} {ws : List V} {p : Addr} (pr : Pre K G Z H Fin) (r : RepL K (G.zt Z) H .bor xs ws []) (n : H p = none) :
    OpOut K G Z H Fin (newL xs) Z (.ref p) (upd H p (.lst ws)) (if xs.all flatD then [p] else []) := by
  unfold Dn.newL
  by_cases c : xs.all flatD = true
  · rw [if_pos c, if_pos c]
    exact OpOut.lst pr (F' := []) (r.flat (fun _ z => z) (fun _ z => z) (fun _ z => z) c) (List.nil_sublist _) n
  · rw [if_neg c, if_neg c]
    exact OpOut.lstB pr r n
def D.add : D → D → T D
  | .int i, .int j => .ret (.int (i + j))
  | .str a, .str b => if a.length + b.length ≤ 1000000 then .ret (.str (a ++ b)) else .fail
  | .tup xs, .tup ys => if xs.length + ys.length ≤ 1000000 then .ret (.tup (xs ++ ys)) else .fail
  | .lst _ xs, .lst _ ys => if xs.length + ys.length ≤ 1000000 then .ret (newL (xs ++ ys)) else .fail
  | _, _ => .fail
def rAdd4 (K : PySem.W.Frag) : R2 := fun x y H Q => rI0 (fun i j => .int (i + j)) x y H Q ∨ (∃ i j, x = .str i ∧ y = .str j ∧ i.length + j.length ≤ sizeLine ∧ Q (.str (i ++ j)) H) ∨ rCatX K x y H Q ∨ rCat x y H Q
theorem op_add4 : OpR X (binaryOp .Add) (rAdd4 X.K) := op_add.or (op_add_str.or (op_catX.or op_cat))
theorem o_add : Op2 K G (rAdd4 K) D.add := by
  intro Z H d1 v1 F1 d2 v2 F2 Q t1 t2 p h
  cases d1 <;> cases d2 <;> first | exact h.elim | skip
  · exact .inl ⟨_, _, int_val t1, int_val t2, h Z _ H [] (.int p _)⟩
  · obtain ⟨c, h⟩ := ite_holds h
    exact .inr (.inl ⟨_, _, str_val t1, str_val t2, size_small c, h Z _ H [] (.sc p rfl)⟩)
  · obtain ⟨c, h⟩ := ite_holds h
    obtain ⟨pa, ws, e1, s1, r1, _⟩ := tup_val t1
    obtain ⟨pb, us, e2, s2, r2, _⟩ := tup_val t2
    have l1 := r1.len
    have l2 := r2.len
    have rr := RepL.app0 r1 r2
    refine .inr (.inr (.inl ⟨pa, pb, ws, us, e1, e2, s1.sq, s2.sq, size_small (by omega), fun z => ?_, fun z => ?_, fun q o ho n => h Z _ _ [] (.tup0 p rr ho n)⟩))
    · subst z
      exact h Z _ H [] (.tupS p rr s2)
    · subst z
      rw [List.append_nil] at rr
      exact h Z _ H [] (.tupS p rr s1)
  · obtain ⟨c, h⟩ := ite_holds h
    obtain ⟨pa, ws, Fa, e1, s1, r1, _, fa, _⟩ := lst_val t1
    obtain ⟨pb, us, Fb, e2, s2, r2, _, fb, _⟩ := lst_val t2
    have l1 := r1.len
    have l2 := r2.len
    have okf : ∀ {f : Fl} {F F' : List Addr} {q : Addr}, (f = .own → F = q :: F') → (f ≠ .own → F' = []) → (∀ z ∈ F, some z ≠ G.pot) → ∀ z ∈ F', some z ≠ G.pot := by
      intro f F F' q h1 h2 h3 z hz
      by_cases ef : f = .own
      · exact h3 z (by rw [h1 ef]; exact List.mem_cons_of_mem _ hz)
      · rw [h2 ef] at hz; cases hz
    have b1 := r1.bors (okf fa ‹_› fun z hz => (p.own z (List.mem_append_left _ hz)).2) (fun q hq => (p.zf q hq).2)
    have b2 := r2.bors (okf fb ‹_› fun z hz => (p.own z (List.mem_append_right _ hz)).2) (fun q hq => (p.zf q hq).2)
    exact .inr (.inr (.inr ⟨pa, pb, ws, us, e1, e2, s1, s2, size_small (by omega), fun q n => h Z _ _ _ (.newL (m := .bor) (F := []) p (RepL.append b1 b2) n)⟩))
def D.mul : D → D → T D
  | .int i, .int j => if -(2 ^ 64) < j ∧ j < 2 ^ 64 then .ret (.int (i * j)) else if -(2 ^ 64) < i ∧ i < 2 ^ 64 then .ret (.int (i * j)) else .fail
  | .lst _ xs, .int k => if -1000000 ≤ k ∧ k ≤ 1000000 ∧ xs.length * k.toNat ≤ 1000000 then .ret (newL (List.replicate k.toNat xs).flatten) else .fail
  | .tup xs, .int k => if xs ≠ [] ∧ 2 ≤ k ∧ k ≤ 1000 ∧ xs.length ≤ 1000 then .ret (.tup (List.replicate k.toNat xs).flatten) else .fail
  | _, _ => .fail
end
end Dn

set_option Elab.async false
set_option linter.all false
set_option maxRecDepth 100000
namespace Dn
open PySem PySem.Spec PyProof.Rows L2
section
variable {K : PySem.W.Frag} {G : Gh} {X : Cx}
theorem RepL.rep {Z : Zs} {H : Hp} {m : Fl} {xs : List D} {ws : List V} (h : RepL K Z H m xs ws []) : ∀ k : Nat, RepL K Z H m (List.replicate k xs).flatten (List.replicate k ws).flatten []
  | 0 => .nil
  | k + 1 => by
    rw [List.replicate_succ, List.flatten_cons, List.replicate_succ, List.flatten_cons]
    exact RepL.append h (RepL.rep h k)
/-- the items of a list, to be read -/
theorem lst_bor {Z : Addr → Prop} {H : Hp} {F : List Addr} {f : Fl} {xs : List D} {v : V} (t : Tmp K G Z H (.lst f xs) v F) (pr : ∀ p ∈ F, some p ≠ G.pot) (hz : ∀ p, Z p → H p ≠ none ∧ some p ≠ G.pot) : ∃ p ws, v = .ref p ∧ H p = some (.lst ws) ∧ RepL K (G.zt Z) H .bor xs ws [] := by
  obtain ⟨p, ws, Fa, e1, s1, r1, g1, g2, _⟩ := lst_val t
  refine ⟨p, ws, e1, s1, r1.bors (fun z hz => ?_) fun q hq => (hz q hq).2⟩
  by_cases ef : f = .own
  · exact pr z (by rw [g2 ef]; exact List.mem_cons_of_mem _ hz)
  · rw [g1 ef] at hz; cases hz
def rMul3 (K : PySem.W.Frag) : R2 := fun x y H Q => rI CMul (fun i j => .int (i * j)) x y H Q ∨ rRep x y H Q ∨ rRepX K x y H Q
theorem op_mul3 : OpR X (binaryOp .Mult) (rMul3 X.K) := op_mul.or (op_rep.or op_repX)
theorem o_mul : Op2 K G (rMul3 K) D.mul := by
  intro Z H d1 v1 F1 d2 v2 F2 Q t1 t2 p h
  cases d1 <;> cases d2 <;> first | exact h.elim | skip
  · rename_i i j
    have h : T.Holds _ (if -(2 ^ 64) < j ∧ j < 2 ^ 64 then T.ret (D.int (i * j)) else if -(2 ^ 64) < i ∧ i < 2 ^ 64 then .ret (.int (i * j)) else .fail) := h
    refine .inl ⟨_, _, int_val t1, int_val t2, ?_⟩
    by_cases c : -(2 ^ 64) < j ∧ j < 2 ^ 64
    · rw [if_pos c] at h
      exact ⟨.inr c, h Z _ H [] (.int p _)⟩
    · rw [if_neg c] at h
      obtain ⟨c, h⟩ := ite_holds h
      exact ⟨.inl c, h Z _ H [] (.int p _)⟩
  · obtain ⟨c, h⟩ := ite_holds h
    obtain ⟨pa, ws, e1, s1, r1, _⟩ := tup_val t1
    have l1 := r1.len
    have ne : ws ≠ [] := by
      rintro rfl
      exact c.1 (List.eq_nil_of_length_eq_zero l1)
    exact .inr (.inr ⟨pa, _, ws, e1, int_val t2, s1.sq, ne, c.2.1, c.2.2.1, by omega, fun q o ho n => h Z _ _ [] (.tup0 p (r1.rep _) ho n)⟩)
  · obtain ⟨c, h⟩ := ite_holds h
    obtain ⟨pa, ws, e1, s1, b1⟩ := lst_bor t1 (fun z hz => (p.own z (List.mem_append_left _ hz)).2) p.zf
    have l1 := b1.len
    exact .inr (.inl ⟨pa, _, ws, e1, int_val t2, s1, by omega, by omega, size_small (by rw [← l1]; exact c.2.2), fun q n => h Z _ _ _ (.newL (m := .bor) (F := []) p (b1.rep _) n)⟩)

/-! ## equal data -/
mutual
def toP : D → PyData
  | .non => .none | .bl b => .bool b | .int i => .int i | .str x => .str x | .pot => .none
  | .tup xs => .tuple (toPL xs)
  | .lst _ xs => .list (toPL xs)
  | .dic _ kvs => .dict (toPK kvs)
def toPL : List D → List PyData
  | [] => []
  | d :: ds => toP d :: toPL ds
def toPK : List (D × D) → List (PyData × PyData)
  | [] => []
  | p :: ds => (toP p.1, toP p.2) :: toPK ds
end
/-! data of so many layers at most, without dicts -/
mutual
def dok : Nat → D → Bool
  | _, .non => true | _, .bl _ => true | _, .int _ => true | _, .str x => PyData.strOk x | _, .pot => false | _, .dic _ _ => false
  | n, .tup xs => match n with | 0 => false | m + 1 => dokL m xs
  | n, .lst _ xs => match n with | 0 => false | m + 1 => dokL m xs
def dokL : Nat → List D → Bool
  | _, [] => true
  | n, d :: ds => dok n d && dokL n ds
end
/-! as Python's == -/
mutual
def D.eqv : D → D → Bool
  | .non, .non => true
  | .bl a, .bl b => a == b
  | .bl a, .int j => (if a then 1 else 0) == j
  | .int i, .bl b => i == (if b then 1 else 0)
  | .int i, .int j => i == j
  | .str x, .str y => x == y
  | .lst _ xs, .lst _ ys => eqvL xs ys
  | .tup xs, .tup ys => eqvL xs ys
  | _, _ => false
def eqvL : List D → List D → Bool
  | [], [] => true
  | x :: xs, y :: ys => D.eqv x y && eqvL xs ys
  | _, _ => false
end
theorem dok_tup {n : Nat} {xs : List D} (h : dok n (.tup xs) = true) : ∃ m, n = m + 1 ∧ dokL m xs = true := by
  cases n with
  | zero => rw [dok] at h; cases h
  | succ m => rw [dok] at h; exact ⟨m, rfl, h⟩
theorem dok_lst {n : Nat} {f : Fl} {xs : List D} (h : dok n (.lst f xs) = true) : ∃ m, n = m + 1 ∧ dokL m xs = true := by
  cases n with
  | zero => rw [dok] at h; cases h
  | succ m => rw [dok] at h; exact ⟨m, rfl, h⟩
theorem dokL_cons {n : Nat} {d : D} {ds : List D} : dokL n (d :: ds) = (dok n d && dokL n ds) := by rw [dokL]
mutual
theorem eqv_toP : ∀ (a b : D) (n m : Nat), dok n a = true → dok m b = true → PyData.eqv (toP a) (toP b) = D.eqv a b := fun a b n m ha hb => by
  cases a with
  | pot => rw [dok] at ha; cases ha
  | dic f kvs => rw [dok] at ha; cases ha
  | tup xs =>
    obtain ⟨n', rfl, ha⟩ := dok_tup ha
    cases b with
    | tup ys =>
      obtain ⟨m', rfl, hb⟩ := dok_tup hb
      simp only [toP, PyData.eqv, D.eqv]
      exact eqvL_toP xs ys n' m' ha hb
    | pot => rw [dok] at hb; cases hb
    | dic f kvs => rw [dok] at hb; cases hb
    | _ => simp [toP, PyData.eqv, D.eqv]
  | lst f xs =>
    obtain ⟨n', rfl, ha⟩ := dok_lst ha
    cases b with
    | lst g ys =>
      obtain ⟨m', rfl, hb⟩ := dok_lst hb
      simp only [toP, PyData.eqv, D.eqv]
      exact eqvL_toP xs ys n' m' ha hb
    | pot => rw [dok] at hb; cases hb
    | dic f kvs => rw [dok] at hb; cases hb
    | _ => simp [toP, PyData.eqv, D.eqv]
  | _ =>
    cases b with
    | pot => rw [dok] at hb; cases hb
    | dic f kvs => rw [dok] at hb; cases hb
    | _ => simp [toP, PyData.eqv, D.eqv]
theorem eqvL_toP : ∀ (a b : List D) (n m : Nat), dokL n a = true → dokL m b = true → PyData.eqvAll (toPL a) (toPL b) = eqvL a b
  | [], [], _, _, _, _ => by simp [toPL, PyData.eqvAll, eqvL]
  | [], _ :: _, _, _, _, _ => by simp [toPL, PyData.eqvAll, eqvL]
  | _ :: _, [], _, _, _, _ => by simp [toPL, PyData.eqvAll, eqvL]
  | x :: xs, y :: ys, n, m, ha, hb => by
    rw [dokL_cons, Bool.and_eq_true] at ha hb
    simp only [toPL, PyData.eqvAll, eqvL]
    rw [eqv_toP x y n m ha.1 hb.1, eqvL_toP xs ys n m ha.2 hb.2]
end
mutual
theorem lay_toP : ∀ (a : D) (n : Nat), dok n a = true → (toP a).canLay0 = true ∧ (toP a).depth ≤ n := fun a n ha => by
  cases a with
  | pot => rw [dok] at ha; cases ha
  | dic f kvs => rw [dok] at ha; cases ha
  | tup xs =>
    obtain ⟨n', rfl, ha⟩ := dok_tup ha
    obtain ⟨h1, h2⟩ := layL_toP xs n' ha
    simp only [toP, PyData.canLay0, PyData.depth]
    exact ⟨h1, by omega⟩
  | lst f xs =>
    obtain ⟨n', rfl, ha⟩ := dok_lst ha
    obtain ⟨h1, h2⟩ := layL_toP xs n' ha
    simp only [toP, PyData.canLay0, PyData.depth]
    exact ⟨h1, by omega⟩
  | str x =>
    rw [dok] at ha
    simp only [toP, PyData.canLay0, PyData.depth]
    exact ⟨ha, Nat.zero_le _⟩
  | _ => simp [toP, PyData.canLay0, PyData.depth]
theorem layL_toP : ∀ (a : List D) (n : Nat), dokL n a = true → PyData.canLayAll0 (toPL a) = true ∧ PyData.depthAll (toPL a) ≤ n
  | [], _, _ => by simp [toPL, PyData.canLayAll0, PyData.depthAll]
  | x :: xs, n, ha => by
    rw [dokL_cons, Bool.and_eq_true] at ha
    obtain ⟨a1, a2⟩ := lay_toP x n ha.1
    obtain ⟨b1, b2⟩ := layL_toP xs n ha.2
    simp only [toPL, PyData.canLayAll0, PyData.depthAll, a1, b1]
    exact ⟨rfl, by omega⟩
end
theorem shaped_toP {a : D} (h : dok 64 a = true) : SeqAt.shaped (toP a) = true := by
  obtain ⟨h1, h2⟩ := lay_toP a 64 h
  show ((toP a).canLay0 && decide ((toP a).depth ≤ 64)) = true
  rw [h1, decide_eq_true h2]
  rfl
theorem toPL_eq : ∀ ds : List D, toPL ds = ds.map toP
  | [] => by rw [toPL]; rfl
  | d :: ds => by rw [toPL, toPL_eq ds]; rfl
theorem RepL.dp {Z : Zs} {H : Hp} {m : Fl} {ds : List D} {vs : List V} {F : List Addr} (h : RepL K Z H m ds vs F) : ∀ n, dokL n ds = true → DpAll K H vs (toPL ds) := by
  induction h with
  | nil => intro n _; rw [toPL]; exact .nil
  | @sc m d v ds vs F e _ ih =>
    intro n c
    rw [dokL_cons, Bool.and_eq_true] at c
    rw [toPL]
    refine .cons ?_ (ih n c.2)
    cases d <;> simp [scV] at e <;> subst e
    · rw [toP]; exact .non
    · rw [toP]; exact .bl _
    · rw [toP]; exact .int _
    · rw [toP]; exact .str _
  | pot _ _ _ =>
    intro n c
    rw [dokL_cons, Bool.and_eq_true, dok] at c
    cases c.1
  | tup e _ _ ih1 ih2 =>
    intro n c
    rw [dokL_cons, Bool.and_eq_true] at c
    obtain ⟨n', rfl, hc⟩ := dok_tup c.1
    rw [toPL, toP]
    exact .cons (.tup e.sq (ih1 n' hc)) (ih2 _ c.2)
  | own _ e _ _ ih1 ih2 =>
    intro n c
    rw [dokL_cons, Bool.and_eq_true] at c
    obtain ⟨n', rfl, hc⟩ := dok_lst c.1
    rw [toPL, toP]
    exact .cons (.lst (.of e) (ih1 n' hc)) (ih2 _ c.2)
  | shr _ _ e _ _ ih1 ih2 =>
    intro n c
    rw [dokL_cons, Bool.and_eq_true] at c
    obtain ⟨n', rfl, hc⟩ := dok_lst c.1
    rw [toPL, toP]
    exact .cons (.lst (.of e) (ih1 n' hc)) (ih2 _ c.2)
  | down _ _ _ _ _ _ _ =>
    intro n c
    rw [dokL_cons, Bool.and_eq_true, dok] at c
    cases c.1
  | dshr _ _ _ _ _ _ _ _ =>
    intro n c
    rw [dokL_cons, Bool.and_eq_true, dok] at c
    cases c.1
theorem Tmp.dp {Z : Addr → Prop} {H : Hp} {d : D} {v : V} {F : List Addr} (t : Tmp K G Z H d v F) (h : dok 64 d = true) : Dp K H v (toP d) := by
  have q := t.t.dp 64 (by rw [dokL_cons, h, dokL]; rfl)
  rw [toPL, toPL] at q
  cases q with
  | cons a _ => exact a
def D.eq (a b : D) : T D := if dok 64 a ∧ dok 64 b then .ret (.bl (D.eqv a b)) else .fail
def D.ne (a b : D) : T D := if dok 64 a ∧ dok 64 b then .ret (.bl (!D.eqv a b)) else .fail
theorem o_eq : Op2 K G (rEqD K) D.eq := by
  intro Z H d1 v1 F1 d2 v2 F2 Q t1 t2 p h
  obtain ⟨c, h⟩ := ite_holds h
  refine ⟨_, _, t1.dp c.1, t2.dp c.2, shaped_toP c.1, shaped_toP c.2, ?_⟩
  rw [eqv_toP d1 d2 64 64 c.1 c.2]
  exact h Z _ H [] (.bl p _)
theorem o_ne : Op2 K G (rNeD K) D.ne := by
  intro Z H d1 v1 F1 d2 v2 F2 Q t1 t2 p h
  obtain ⟨c, h⟩ := ite_holds h
  refine ⟨_, _, t1.dp c.1, t2.dp c.2, shaped_toP c.1, shaped_toP c.2, ?_⟩
  rw [eqv_toP d1 d2 64 64 c.1 c.2]
  exact h Z _ H [] (.bl p _)
/-- one of them is equal -/
def hasD (xs : List D) (d : D) : Bool := xs.any fun x => D.eqv x d
theorem any_toP (d : D) (hd : dok 64 d = true) : ∀ (xs : List D) (n : Nat), dokL n xs = true → ((toPL xs).any fun z => PyData.eqv z (toP d)) = hasD xs d
  | [], _, _ => by rw [toPL]; rfl
  | x :: xs, n, h => by
    rw [dokL_cons, Bool.and_eq_true] at h
    rw [toPL, List.any_cons, any_toP d hd xs n h.2, eqv_toP x d n 64 h.1 hd]
    rfl
def rInA (K : PySem.W.Frag) (neg : Bool) : R2 := fun x y H Q => ∃ d ds, Dp K H x d ∧ (Dp K H y (.list ds) ∨ Dp K H y (.tuple ds)) ∧ SeqAt.shaped d = true ∧ SeqAt.shaped (.list ds) = true ∧ Q (.bl (neg ^^ ds.any fun z => PyData.eqv z d)) H
theorem op_inA (hu : X.A.units + 65 < cLine) : OpR X (compareOp .In) (rInA X.K false) := by
  intro pins s σ H x y v u Q I rx ry h
  obtain ⟨d, ds, hd, he, sd, se, q⟩ := h
  obtain ⟨as, r1⟩ := Dp.reads I d x v hd rx
  have sl := SeqAt.canLay_of_shaped se
  have room := room_in_shaped (xs := ds) sd hu
  rw [Bool.false_xor] at q
  rcases he with he | he
  · obtain ⟨bs, r2⟩ := Dp.reads I (.list ds) y u he ry
    exact SeqAt.in_list_reads r2 r1 sl (SeqAt.canLay_of_shaped sd) room ⟨.bl _, H, I, rfl, q⟩
  · obtain ⟨bs, r2⟩ := Dp.reads I (.tuple ds) y u he ry
    exact SeqAt.in_tuple_reads r2 r1 sl (SeqAt.canLay_of_shaped sd) room ⟨.bl _, H, I, rfl, q⟩
theorem op_notInA (hu : X.A.units + 65 < cLine) : OpR X (compareOp .NotIn) (rInA X.K true) := by
  intro pins s σ H x y v u Q I rx ry h
  obtain ⟨d, ds, hd, he, sd, se, q⟩ := h
  obtain ⟨as, r1⟩ := Dp.reads I d x v hd rx
  have sl := SeqAt.canLay_of_shaped se
  have room := room_in_shaped (xs := ds) sd hu
  rw [Bool.true_xor] at q
  rcases he with he | he
  · obtain ⟨bs, r2⟩ := Dp.reads I (.list ds) y u he ry
    exact SeqAt.notIn_list_reads r2 r1 sl (SeqAt.canLay_of_shaped sd) room ⟨.bl _, H, I, rfl, q⟩
  · obtain ⟨bs, r2⟩ := Dp.reads I (.tuple ds) y u he ry
    exact SeqAt.notIn_tuple_reads r2 r1 sl (SeqAt.canLay_of_shaped sd) room ⟨.bl _, H, I, rfl, q⟩
end
end Dn

set_option Elab.async false
set_option linter.all false
set_option maxRecDepth 100000
namespace Dn
open PySem PySem.Spec PyProof.Rows L2
section
variable {K : PySem.W.Frag} {G : Gh} {X : Cx}
/-! ## in, order, is None -/
def inList (neg : Bool) (d : D) : D → T D
  | .lst _ xs => if dok 64 d ∧ dokL 63 xs then .ret (.bl (neg ^^ hasD xs d)) else .fail
  | .tup xs => if dok 64 d ∧ dokL 63 xs then .ret (.bl (neg ^^ hasD xs d)) else .fail
  | _ => .fail
theorem dokL_shaped {xs : List D} (h : dokL 63 xs = true) : SeqAt.shaped (.list (toPL xs)) = true := by
  obtain ⟨h1, h2⟩ := layL_toP xs 63 h
  show (PyData.canLay0 (.list (toPL xs)) && decide (PyData.depth (.list (toPL xs)) ≤ 64)) = true
  rw [Bool.and_eq_true, decide_eq_true_eq]
  simp only [PyData.canLay0, PyData.depth]
  exact ⟨h1, by omega⟩
theorem o_inA (neg : Bool) : Op2 K G (rInA K neg) (inList neg) := by
  intro Z H d1 v1 F1 d2 v2 F2 Q t1 t2 p h
  cases d2 <;> first | exact h.elim | skip
  · obtain ⟨c, h⟩ := ite_holds h
    have q := t2.dp (by rw [dok]; exact c.2)
    rw [toP] at q
    refine ⟨_, _, t1.dp c.1, .inr q, shaped_toP c.1, dokL_shaped c.2, ?_⟩
    rw [any_toP _ c.1 _ _ c.2]
    exact h Z _ H [] (.bl p _)
  · obtain ⟨c, h⟩ := ite_holds h
    have q := t2.dp (by rw [dok]; exact c.2)
    rw [toP] at q
    refine ⟨_, _, t1.dp c.1, .inl q, shaped_toP c.1, dokL_shaped c.2, ?_⟩
    rw [any_toP _ c.1 _ _ c.2]
    exact h Z _ H [] (.bl p _)
def cmpI (f : Int → Int → Bool) : D → D → T D
  | .int i, .int j => .ret (.bl (f i j))
  | _, _ => .fail
theorem o_cmpI (f : Int → Int → Bool) : Op2 K G (rI0 fun i j => .bl (f i j)) (cmpI f) := by
  intro Z H d1 v1 F1 d2 v2 F2 Q t1 t2 p h
  cases d1 <;> cases d2 <;> first | exact h.elim | skip
  exact ⟨_, _, int_val t1, int_val t2, h Z _ H [] (.bl p _)⟩
abbrev D.lt := cmpI fun i j => decide (i < j)
abbrev D.le := cmpI fun i j => decide (i ≤ j)
abbrev D.gt := cmpI fun i j => decide (j < i)
abbrev D.ge := cmpI fun i j => decide (j ≤ i)
def isNon : D → Bool
  | .non => true
  | _ => false
theorem Tmp.isNon {Z : Addr → Prop} {H : Hp} {d : D} {v : V} {F : List Addr} (t : Tmp K G Z H d v F) : decide (v = .non) = isNon d := by
  have q := t.t
  cases q with
  | sc e _ => cases d <;> simp [scV] at e <;> subst e <;> rfl
  | _ => rfl
def D.isN (d : D) : D → T D := fun _ => .ret (.bl (isNon d))
def D.notN (d : D) : D → T D := fun _ => .ret (.bl (!isNon d))
theorem o_isN : Op2 K G (fun x y H Q => y = .non ∧ Q (.bl (decide (x = .non))) H) (fun a b => match b with | .non => .ret (.bl (isNon a)) | _ => .fail) := by
  intro Z H d1 v1 F1 d2 v2 F2 Q t1 t2 p h
  cases d2 <;> first | exact h.elim | skip
  refine ⟨non_val t2, ?_⟩
  rw [t1.isNon]
  exact h Z _ H [] (.bl p _)
theorem o_notN : Op2 K G (fun x y H Q => y = .non ∧ Q (.bl (!decide (x = .non))) H) (fun a b => match b with | .non => .ret (.bl (!isNon a)) | _ => .fail) := by
  intro Z H d1 v1 F1 d2 v2 F2 Q t1 t2 p h
  cases d2 <;> first | exact h.elim | skip
  refine ⟨non_val t2, ?_⟩
  rw [t1.isNon]
  exact h Z _ H [] (.bl p _)
/-! ## displays -/
def tupD (ds : List D) : T D := if ds.any topBor = false ∧ ds.length ≤ 1000 then .ret (.tup ds) else .fail
theorem TmpL.bor {Z : Addr → Prop} {H : Hp} {ds : List D} {vs : List V} {F : List Addr} (t : TmpL K G Z H ds vs F) (p : Pre K G Z H F) : RepL K (G.zt Z) H .bor ds vs [] := t.t.bors (fun z hz => (p.own z hz).2) fun q hq => (p.zf q hq).2
def lstD (ds : List D) : T D := if ds.length ≤ 1000 then .ret (.lst (if ds.any topBor then .bor else .own) ds) else .fail
end
section
variable {X : Cx} {G : Gh} {es : List Expr} {pos : Pos} {ea : Env → T (List D)}
theorem ee_tup {x1} (h : PA X es (RdA X.K G ea)) : PE X (.Tuple es x1 pos) (RdE X.K G (callN tupD ea)) := PE.imp (pe_tupX h) fun σ H Q h =>
  rdN (r := fun vs H Q => vs.length ≤ sizeLine ∧ MkT H vs Q) (fun Z H ds vs F Q t p h => by
    obtain ⟨c, h⟩ := ite_holds h
    have l := t.len
    exact ⟨size_small (by omega), fun q o ho n => h _ _ _ _ (.tup p t c.1 ho n)⟩) h
theorem ee_lst (h : PA X es (RdA X.K G ea)) : PE X (.List es pos) (RdE X.K G (callN lstD ea)) := PE.imp (pe_lst h) fun σ H Q h =>
  rdN (r := fun vs H Q => vs.length ≤ sizeLine ∧ ∀ p, H p = none → Q (.ref p) (upd H p (.lst vs))) (fun Z H ds vs F Q t p h => by
    obtain ⟨c, h⟩ := ite_holds h
    have l := t.len
    refine ⟨size_small (by omega), fun q n => ?_⟩
    cases e : ds.any topBor with
    | true =>
      rw [e, if_pos rfl] at h
      exact h _ _ _ _ (.lstB p (t.bor p) n)
    | false =>
      rw [e, if_neg Bool.false_ne_true] at h
      exact h _ _ _ _ (.lst p (t.s e) (List.Sublist.refl _) n)) h
end
/-! ## items, slices -/
section
variable {K : PySem.W.Frag} {G : Gh} {X : Cx}
/-- taken out of a list read as f -/
def takeF (f : Fl) (d : D) : D := match f with
  | .own => d
  | g => deg g d
def D.ix : D → D → T D
  | .tup xs, .int i => (T.ofO (atI xs i)).bind fun d => .ret (deg .frz d)
  | .lst f xs, .int i => (T.ofO (atI xs i)).bind fun d => .ret (takeF f d)
  | .str x, .int i => (T.ofO (atI x.cps.toList i)).bind fun c => if x.length ≤ 1000000 then .ret (.str ⟨#[c]⟩) else .fail
  | _, _ => .fail
theorem atI_two {α β : Type} {xs : List α} {ws : List β} {i : Int} {x : α} (h : atI xs i = some x) (l : xs.length = ws.length) : ∃ j : Nat, xs[j]? = some x ∧ ∀ w, ws[j]? = some w → atI ws i = some w := by
  unfold atI at h ⊢
  rw [l] at h
  cases e : ixN ws.length i with
  | none => rw [e] at h; cases h
  | some j =>
    rw [e] at h
    exact ⟨j, h, fun w hw => hw⟩
theorem mat_o {α β : Type} {Q : β → Prop} {o : Option α} {f : α → T β} (h : ((T.ofO o).bind f).Holds Q) : ∃ a, o = some a ∧ (f a).Holds Q := by
  cases o with
  | none => exact h.elim
  | some a => exact ⟨a, rfl, h⟩
theorem o_ix : Op2 K G (rIx K) D.ix := by
  intro Z H d1 v1 F1 d2 v2 F2 Q t1 t2 p h
  cases d1 <;> cases d2 <;> first | exact h.elim | skip
  · obtain ⟨c, e, h⟩ := mat_o h
    obtain ⟨l, h⟩ := ite_holds h
    exact .inr (.inr ⟨_, _, c, str_val t1, int_val t2, size_small l, e, h Z _ H [] (.sc p rfl)⟩)
  · obtain ⟨d, e, h⟩ := mat_o h
    obtain ⟨pa, ws, e1, s1, r1, _⟩ := tup_val t1
    obtain ⟨j, ej, ew⟩ := atI_two e r1.len
    obtain ⟨w, F0, e3, sub, r⟩ := r1.at ej
    have ef := r.nofp (by decide)
    subst ef
    refine .inr (.inl ⟨pa, ws, _, w, e1, int_val t2, s1.sq, ew w e3, h Z w H [] (.same p (.inr ⟨?_, r.out (by decide)⟩))⟩)
    cases d with
    | lst g _ => cases g <;> first | rfl | (cases r with
      | sc e _ => simp [scV] at e
      | shr e0 _ _ _ _ => simp [eff] at e0)
    | dic g _ => cases g <;> first | rfl | (cases r with
      | sc e _ => simp [scV] at e
      | dshr e0 _ _ _ _ _ => simp [eff] at e0)
    | _ => rfl
  · rename_i f xs i
    obtain ⟨d, e, h⟩ := mat_o h
    obtain ⟨pa, ws, F', e1, s1, r1, g1, g2, g3⟩ := lst_val t1
    obtain ⟨j, ej, ew⟩ := atI_two e r1.len
    refine .inl ⟨pa, ws, i, ?_⟩
    by_cases ef : f = .own
    · subst ef
      have rs := g3 (by decide)
      obtain ⟨w, F0, e3, sub, r⟩ := rs.at ej
      refine ⟨w, e1, int_val t2, .of s1, ew w e3, h Z w H F0 (.part p (.inr ⟨?_, r⟩) ?_)⟩
      · cases d with
        | lst g _ => cases g <;> first | rfl | (cases r with
          | sc e _ => simp [scV] at e
          | own e0 _ _ _ => simp [eff] at e0
          | shr e0 e1 _ _ _ => simp [eff] at e0; subst e0; exact e1.elim)
        | dic g _ => cases g <;> first | rfl | (cases r with
          | sc e _ => simp [scV] at e
          | down e0 _ _ _ _ => simp [eff] at e0
          | dshr e0 e1 _ _ _ _ => simp [eff] at e0; subst e0; exact e1.elim)
        | _ => rfl
      · rw [g2 rfl]
        exact (sub.trans (List.sublist_cons_self _ _)).trans (List.sublist_append_left _ _)
    · have e0 := g1 ef
      subst e0
      obtain ⟨w, F0, e3, sub, r⟩ := r1.at ej
      have e4 := r.nofp ef
      subst e4
      refine ⟨w, e1, int_val t2, .of s1, ew w e3, h Z w H [] ?_⟩
      have q : Tmp K G Z H (deg f d) w [] := tmp_out r ef fun nb => by
        obtain ⟨w', F1, e5, _, r'⟩ := (g3 nb).at ej
        rw [e3] at e5
        cases e5
        have e6 := r'.nofp ef
        subst e6
        exact r'
      cases f with
      | own => exact absurd rfl ef
      | _ => exact .same p q
end
section
variable {X : Cx} {G : Gh} {a b : Expr} {pos : Pos} {da db : Env → T D}
theorem ee_ix (ha : PE X a (RdE X.K G da)) (hb : PE X b (RdE X.K G db)) (hs : PlainIx b := by exact fun _ _ => rfl) : PE X (.Subscript a b pos) (RdE X.K G (bin2 D.ix da db)) := PE.imp (pe_ix ix_seq ha hb hs) fun _ _ _ h => rd2 o_ix h
end
end Dn

set_option Elab.async false
set_option linter.all false
set_option maxRecDepth 100000
namespace Dn
open PySem PySem.Spec PyProof.Rows L2
section
variable {K : PySem.W.Frag} {G : Gh} {X : Cx}
/-! ## slices -/
def cutL {α : Type} (xs : List α) (lo hi : Option Int) : List α := (xs.drop (HT.sIx xs.length 0 lo)).take (HT.sIx xs.length xs.length hi - HT.sIx xs.length 0 lo)
theorem RepL.drop {Z : Zs} {H : Hp} {m : Fl} : ∀ {xs : List D} {ws : List V} (k : Nat), RepL K Z H m xs ws [] → RepL K Z H m (xs.drop k) (ws.drop k) []
  | _, _, 0, h => h
  | [], _, k + 1, h => by
    obtain ⟨rfl, _⟩ := h.nil_inv
    exact .nil
  | x :: xs, [], k + 1, h => by have := h.len; simp at this
  | x :: xs, w :: ws, k + 1, h => by
    obtain ⟨F1, F2, e, _, h2⟩ := h.uncons
    obtain ⟨rfl, rfl⟩ := List.append_eq_nil_iff.mp e.symm
    exact RepL.drop k h2
theorem RepL.take {Z : Zs} {H : Hp} {m : Fl} : ∀ {xs : List D} {ws : List V} (k : Nat), RepL K Z H m xs ws [] → RepL K Z H m (xs.take k) (ws.take k) []
  | _, _, 0, h => .nil
  | [], _, k + 1, h => by
    obtain ⟨rfl, _⟩ := h.nil_inv
    exact .nil
  | x :: xs, [], k + 1, h => by have := h.len; simp at this
  | x :: xs, w :: ws, k + 1, h => by
    obtain ⟨F1, F2, e, h1, h2⟩ := h.uncons
    obtain ⟨rfl, rfl⟩ := List.append_eq_nil_iff.mp e.symm
    exact RepL.cons1 h1 (RepL.take k h2)
theorem RepL.cut {Z : Zs} {H : Hp} {m : Fl} {xs : List D} {ws : List V} (h : RepL K Z H m xs ws []) (lo hi : Option Int) : RepL K Z H m (cutL xs lo hi) (cutV ws lo hi) [] := by
  unfold cutL cutV
  rw [h.len]
  exact (h.drop _).take _
def D.cut (d : D) (lo hi : Option Int) : T D := match d with
  | .tup xs => .ret (.tup (cutL xs lo hi))
  | .lst _ xs => .ret (newL (cutL xs lo hi))
  | .str x => if x.length ≤ 1000000 then .ret (.str (cutS x lo hi)) else .fail
  | _ => .fail
def rSl3 (K : PySem.W.Frag) : V → Option Int → Option Int → Hp → VK → Prop := fun x lo hi H Q => rSlX K x lo hi H Q ∨ rSlL K x lo hi H Q ∨ rSlS x lo hi H Q
theorem sl_any : SlR X (rSl3 X.K) := sl_tupX.or (sl_list.or sl_str)
theorem cut_whole {α : Type} {xs : List α} {lo hi : Option Int} (h : HT.sIx xs.length 0 lo = 0 ∧ HT.sIx xs.length xs.length hi = xs.length) : cutL xs lo hi = xs := by
  unfold cutL
  rw [h.1, h.2]
  simp
theorem o_cut (lo hi : Option Int) : Op1 K G (fun x H Q => rSl3 K x lo hi H Q) (fun d => D.cut d lo hi) := by
  intro Z H d1 v1 F1 Q t1 p h
  cases d1 <;> first | exact h.elim | skip
  · obtain ⟨c, h⟩ := ite_holds h
    exact .inr (.inr ⟨_, str_val t1, size_small c, h Z _ H [] (.sc p rfl)⟩)
  · obtain ⟨pa, ws, e1, s1, r1, _⟩ := tup_val t1
    refine .inl ⟨pa, ws, e1, s1.sq, fun w => ?_, fun q o ho n => h Z _ _ [] (.tup0 p (r1.cut lo hi) ho n)⟩
    have h : Q _ H := h Z (.ref pa) H [] (.tupS p (by rw [← r1.len] at w; rw [cut_whole w]; exact r1) s1)
    exact h
  · obtain ⟨pa, ws, e1, s1, b1⟩ := lst_bor t1 (fun z hz => (p.own z hz).2) p.zf
    exact .inr (.inl ⟨pa, ws, e1, .of s1, fun q n => h Z _ _ _ (.newL (m := .bor) (F := []) p (b1.cut lo hi) n)⟩)
def RdO (K : PySem.W.Frag) (G : Gh) (e : Env → T (Option Int)) : TO := fun σ H Q => ∃ Z env, StRel K G Z env σ H ∧ (e env).Holds fun o => ∀ Z' H', Go G Z H Z' H' → Q o H'
def noP : Env → T (Option Int) := fun _ => .ret none
def partE (e : Env → T D) : Env → T (Option Int) := fun env => (e env).bind fun d => match d with
  | .int i => .ret (some i)
  | _ => .fail
theorem PO.imp {e : Option Expr} {t t' : TO} (h : PO X e t) (i : ∀ σ H Q, t' σ H Q → t σ H Q) : PO X e t' := ⟨fun pins s σ H Q I q => h.run pins s σ H Q I (i σ H Q q)⟩
theorem eo_none : PO X none (RdO X.K G noP) := PO.imp po_none fun σ H Q h => by
  obtain ⟨Z, env, S, h⟩ := h
  exact h Z H S.goR
theorem eo_some {e : Expr} {de : Env → T D} (he : PE X e (RdE X.K G de)) : PO X (some e) (RdO X.K G (partE de)) := PO.imp (po_some he) fun σ H Q h => by
  obtain ⟨Z, env, S, h⟩ := h
  refine ⟨Z, env, S, (T.holds_bind h).mono fun d h Z' v H' F o => ?_⟩
  cases d <;> first | exact h.elim | skip
  exact ⟨_, int_val o.tmp, h Z' H' o.go⟩
def cutE (e : Env → T D) (lo hi : Env → T (Option Int)) : Env → T D := fun env => (e env).bind fun x => (lo env).bind fun l => (hi env).bind fun u => D.cut x l u
theorem Go.ex {Z Z1 Z2 : Addr → Prop} {H H1 H2 : Hp} {d : D} {v : V} {F : List Addr} (e : ExOut K G Z H d Z1 v H1 F) (g : Go G Z1 H1 Z2 H2) : ExOut K G Z H d Z2 v H2 F :=
  ⟨e.go.trans g, e.tmp.go g fun p hp => (e.new.new p hp).2.2, e.new.go g e.tmp.known⟩
theorem ee_cut {e : Expr} {lo hi : Option Expr} {de : Env → T D} {dl dh : Env → T (Option Int)} {p2 pos : Pos} (he : PE X e (RdE X.K G de)) (hl : PO X lo (RdO X.K G dl)) (hh : PO X hi (RdO X.K G dh)) : PE X (.Subscript e (.Slice lo hi none p2) pos) (RdE X.K G (cutE de dl dh)) :=
  PE.imp (pe_slice sl_any he hl hh) fun σ H Q h => by
    obtain ⟨Z, env, S, h⟩ := h
    refine ⟨Z, env, S, (T.holds_bind h).mono fun d h Z1 v H1 F e1 => ⟨Z1, env, S.go e1.go, (T.holds_bind h).mono fun l h Z2 H2 g2 => ⟨Z2, env, S.go (e1.go.trans g2), (T.holds_bind h).mono fun u h Z3 H3 g3 => ?_⟩⟩⟩
    have e3 := (e1.go.trans g2).trans g3
    have q := Go.ex e1 (g2.trans g3)
    exact o_cut l u Z3 H3 d v F Q q.tmp (.of S q.go q.new) (h.mono fun d2 h Z' v H' F o => h Z' v H' F (o.ex q.go q.new))
/-! ## built-in functions -/
def one (o : D → T D) : List D → T D
  | [d] => o d
  | _ => .fail
def two (o : D → D → T D) : List D → T D
  | [a, b] => o a b
  | _ => .fail
theorem opN_one {r : V → Hp → VK → Prop} {o : D → T D} (h : Op1 K G r o) : OpN K G (fun vs H Q => ∃ v, vs = [v] ∧ r v H Q) (one o) := by
  intro Z H ds vs F Q t p hh
  cases t with
  | nil => exact hh.elim
  | cons t1 t2 =>
    cases t2 with
    | cons _ _ => exact hh.elim
    | nil =>
      rw [List.append_nil] at p hh
      exact ⟨_, rfl, h Z H _ _ _ Q t1 p hh⟩
theorem opN_two {r : V → V → Hp → VK → Prop} {o : D → D → T D} (h : Op2 K G r o) : OpN K G (fun vs H Q => ∃ v w, vs = [v, w] ∧ r v w H Q) (two o) := by
  intro Z H ds vs F Q t p hh
  cases t with
  | nil => exact hh.elim
  | cons t1 t2 =>
    cases t2 with
    | nil => exact hh.elim
    | cons t2 t3 =>
      cases t3 with
      | cons _ _ => exact hh.elim
      | nil =>
        rw [List.append_nil] at p hh
        exact ⟨_, _, rfl, h Z H _ _ _ _ _ _ Q t1 t2 p hh⟩
theorem CallR.imp {f : Value} {r r' : List V → Hp → VK → Prop} (h : CallR X f r) (i : ∀ vs H Q, r' vs H Q → r vs H Q) : CallR X f r' := fun pins s σ H xs us Q I rx q => h pins s σ H xs us Q I rx (i _ _ _ q)
def D.len : D → T D
  | .tup xs => .ret (.int xs.length)
  | .lst _ xs => .ret (.int xs.length)
  | .str x => if x.length ≤ 1000000 then .ret (.int x.length) else .fail
  | .dic _ kvs => match kvs with
    | [] => .fail
    | kvs => .fail
  | _ => .fail
theorem o_len : Op1 K G (fun x H Q => ∃ n, LenV K x H n ∧ Q (.int n) H) D.len := by
  intro Z H d1 v1 F1 Q t1 p h
  cases d1 <;> first | exact h.elim | skip
  · obtain ⟨c, h⟩ := ite_holds h
    have e := str_val t1
    subst e
    exact ⟨_, ⟨size_small c, rfl⟩, h Z _ H [] (.int p _)⟩
  · obtain ⟨pa, ws, e1, s1, r1, _⟩ := tup_val t1
    subst e1
    refine ⟨_, .inr ⟨ws, s1.sq, rfl⟩, ?_⟩
    rw [← r1.len]
    exact h Z _ H [] (.int p _)
  · obtain ⟨pa, ws, e1, s1, b1⟩ := lst_bor t1 (fun z hz => (p.own z hz).2) p.zf
    subst e1
    refine ⟨_, .inl ⟨ws, .of s1, rfl⟩, ?_⟩
    rw [← b1.len]
    exact h Z _ H [] (.int p _)
  · rename_i f kvs
    cases kvs <;> exact h.elim
theorem cr_len : CallR X (.builtin "len") fun vs H Q => ∃ v, vs = [v] ∧ ∃ n, LenV X.K v H n ∧ Q (.int n) H := CallR.imp call_len fun vs H Q ⟨v, e, n, l, q⟩ => ⟨v, n, e, l, q⟩
def D.abs : D → T D
  | .int i => .ret (.int (if i < 0 then -i else i))
  | _ => .fail
theorem o_abs : Op1 K G (fun x H Q => ∃ i, x = .int i ∧ Q (.int (if i < 0 then -i else i)) H) D.abs := by
  intro Z H d1 v1 F1 Q t1 p h
  cases d1 <;> first | exact h.elim | skip
  exact ⟨_, int_val t1, h Z _ H [] (.int p _)⟩
theorem cr_abs : CallR X (.builtin "abs") fun vs H Q => ∃ v, vs = [v] ∧ ∃ i, v = .int i ∧ Q (.int (if i < 0 then -i else i)) H := CallR.imp call_abs fun vs H Q ⟨v, e, i, l, q⟩ => ⟨i, by rw [e, l], q⟩
def D.toInt : D → T D
  | .int i => .ret (.int i)
  | .bl b => .ret (.int (if b then 1 else 0))
  | _ => .fail
theorem o_int : Op1 K G (fun x H Q => (∃ i, x = .int i ∧ Q (.int i) H) ∨ ∃ k, x = .bl k ∧ Q (.int (if k then 1 else 0)) H) D.toInt := by
  intro Z H d1 v1 F1 Q t1 p h
  cases d1 <;> first | exact h.elim | skip
  · exact .inr ⟨_, bl_val t1, h Z _ H [] (.int p _)⟩
  · exact .inl ⟨_, int_val t1, h Z _ H [] (.int p _)⟩
theorem cr_int : CallR X (.type "int") fun vs H Q => ∃ v, vs = [v] ∧ ((∃ i, v = .int i ∧ Q (.int i) H) ∨ ∃ k, v = .bl k ∧ Q (.int (if k then 1 else 0)) H) := CallR.imp call_int1 fun vs H Q ⟨v, e, h⟩ => h.imp (fun ⟨i, a, b⟩ => ⟨i, by rw [e, a], b⟩) fun ⟨i, a, b⟩ => ⟨i, by rw [e, a], b⟩
def intI (f : Int → Int → Int) : D → D → T D
  | .int i, .int j => .ret (.int (f i j))
  | _, _ => .fail
abbrev D.max2 := intI fun i j => if j > i then j else i
abbrev D.min2 := intI fun i j => if j < i then j else i
theorem o_intI (f : Int → Int → Int) : Op2 K G (fun x y H Q => ∃ i j, x = .int i ∧ y = .int j ∧ Q (.int (f i j)) H) (intI f) := by
  intro Z H d1 v1 F1 d2 v2 F2 Q t1 t2 p h
  cases d1 <;> cases d2 <;> first | exact h.elim | skip
  exact ⟨_, _, int_val t1, int_val t2, h Z _ H [] (.int p _)⟩
theorem cr_max2 (hc : X.calm = true) : CallR X (.builtin "max") fun vs H Q => ∃ v w, vs = [v, w] ∧ ∃ i j, v = .int i ∧ w = .int j ∧ Q (.int (if j > i then j else i)) H := CallR.imp (call_max2 hc) fun vs H Q ⟨v, w, e, i, j, a, b, q⟩ => ⟨i, j, by rw [e, a, b], q⟩
theorem cr_min2 (hc : X.calm = true) : CallR X (.builtin "min") fun vs H Q => ∃ v w, vs = [v, w] ∧ ∃ i j, v = .int i ∧ w = .int j ∧ Q (.int (if j < i then j else i)) H := CallR.imp (call_min2 hc) fun vs H Q ⟨v, w, e, i, j, a, b, q⟩ => ⟨i, j, by rw [e, a, b], q⟩
/-- list(x), tuple(x) -/
def D.toList : D → T D
  | .tup xs => .ret (newL xs)
  | .lst _ xs => .ret (newL xs)
  | _ => .fail
theorem o_list : Op1 K G (fun x H Q => ∃ p ys, x = .ref p ∧ (SqL K H p ys ∨ SqT K H p ys) ∧ ∀ l, H l = none → Q (.ref l) (upd H l (.lst ys))) D.toList := by
  intro Z H d1 v1 F1 Q t1 p h
  cases d1 <;> first | exact h.elim | skip
  · obtain ⟨pa, ws, e1, s1, r1, _⟩ := tup_val t1
    exact ⟨pa, ws, e1, .inr s1.sq, fun q n => h Z _ _ _ (.newL (m := .bor) (F := []) p (r1.toT.bors (fun _ z => nomatch z) fun q hq => (p.zf q hq).2) n)⟩
  · obtain ⟨pa, ws, e1, s1, b1⟩ := lst_bor t1 (fun z hz => (p.own z hz).2) p.zf
    exact ⟨pa, ws, e1, .inl (.of s1), fun q n => h Z _ _ _ (.newL (m := .bor) (F := []) p b1 n)⟩
theorem cr_list : CallR X (.type "list") fun vs H Q => ∃ v, vs = [v] ∧ ∃ p ys, v = .ref p ∧ (SqL X.K H p ys ∨ SqT X.K H p ys) ∧ ∀ l, H l = none → Q (.ref l) (upd H l (.lst ys)) := CallR.imp call_list_of fun vs H Q ⟨v, e, p, ys, l, q⟩ => ⟨p, ys, by rw [e, l], q⟩
def D.toTup : D → T D
  | .tup xs => .ret (.tup xs)
  | .lst f xs => if f = .frz ∨ xs.all flatD then .ret (.tup xs) else .fail
  | _ => .fail
theorem o_tuple : Op1 K G (fun x H Q => ∃ p ys, x = .ref p ∧ ((SqL K H p ys ∧ MkT H ys Q) ∨ (SqT K H p ys ∧ Q (.ref p) H))) D.toTup := by
  intro Z H d1 v1 F1 Q t1 p h
  cases d1 <;> first | exact h.elim | skip
  · obtain ⟨pa, ws, e1, s1, r1, _⟩ := tup_val t1
    exact ⟨pa, ws, e1, .inr ⟨s1.sq, h Z _ H [] (.tupS p r1 s1)⟩⟩
  · rename_i f xs
    obtain ⟨c, h⟩ := ite_holds h
    obtain ⟨pa, ws, F', e1, s1, r1, g1, g2, g3⟩ := lst_val t1
    refine ⟨pa, ws, e1, .inl ⟨.of s1, fun q o ho n => h Z _ _ [] (.tup0 p ?_ ho n)⟩⟩
    rcases c with rfl | c
    · have e := g1 (by decide)
      subst e
      exact g3 (by decide)
    · exact r1.flat (fun _ z => z) (fun _ z => z) (fun _ z => z) c
theorem cr_tuple : CallR X (.type "tuple") fun vs H Q => ∃ v, vs = [v] ∧ ∃ p ys, v = .ref p ∧ ((SqL X.K H p ys ∧ MkT H ys Q) ∨ (SqT X.K H p ys ∧ Q (.ref p) H)) := CallR.imp cr_tupX fun vs H Q ⟨v, e, p, ys, l, q⟩ => ⟨p, ys, by rw [e, l], q⟩
/-- all, any of a list of truth values; sum of a list of ints -/
def blsOf : List D → Option (List Bool)
  | [] => some []
  | .bl b :: ds => (blsOf ds).map (b :: ·)
  | _ => none
def intsOf : List D → Option (List Int)
  | [] => some []
  | .int b :: ds => (intsOf ds).map (b :: ·)
  | _ => none
theorem rep_bls {Z : Zs} {H : Hp} {m : Fl} {xs : List D} {ws : List V} {F : List Addr} (h : RepL K Z H m xs ws F) : ∀ bs, blsOf xs = some bs → ws = bs.map V.bl := by
  induction h with
  | nil => intro bs e; cases e; rfl
  | @sc m d v ds vs F e _ ih =>
    intro bs q
    cases d <;> simp [scV] at e <;> simp [blsOf] at q
    subst e
    obtain ⟨bs', q1, q2⟩ := q
    rw [← q2, List.map_cons, ih bs' q1]
  | _ => intro bs q; simp [blsOf] at q
theorem rep_ints {Z : Zs} {H : Hp} {m : Fl} {xs : List D} {ws : List V} {F : List Addr} (h : RepL K Z H m xs ws F) : ∀ bs, intsOf xs = some bs → ws = bs.map V.int := by
  induction h with
  | nil => intro bs e; cases e; rfl
  | @sc m d v ds vs F e _ ih =>
    intro bs q
    cases d <;> simp [scV] at e <;> simp [intsOf] at q
    subst e
    obtain ⟨bs', q1, q2⟩ := q
    rw [← q2, List.map_cons, ih bs' q1]
  | _ => intro bs q; simp [intsOf] at q
def foldB (f : List Bool → D) : D → T D
  | .lst _ xs => (T.ofO (blsOf xs)).bind fun bs => .ret (f bs)
  | _ => .fail
def foldI (f : List Int → D) : D → T D
  | .lst _ xs => (T.ofO (intsOf xs)).bind fun bs => .ret (f bs)
  | _ => .fail
theorem o_foldB (f : List Bool → D) (g : List Bool → V) (e : ∀ bs, scV (f bs) = some (g bs)) : Op1 K G (fun x H Q => ∃ (a : Addr) (bs : List Bool), x = .ref a ∧ SqL K H a (bs.map V.bl) ∧ Q (g bs) H) (foldB f) := by
  intro Z H d1 v1 F1 Q t1 p h
  cases d1 <;> first | exact h.elim | skip
  obtain ⟨bs, eb, h⟩ := mat_o h
  obtain ⟨pa, ws, e1, s1, b1⟩ := lst_bor t1 (fun z hz => (p.own z hz).2) p.zf
  have q := rep_bls b1 bs eb
  subst q
  exact ⟨pa, bs, e1, .of s1, h Z _ H [] (.sc p (e bs))⟩
theorem o_foldI (f : List Int → D) (g : List Int → V) (e : ∀ bs, scV (f bs) = some (g bs)) : Op1 K G (fun x H Q => ∃ (a : Addr) (bs : List Int), x = .ref a ∧ SqL K H a (bs.map V.int) ∧ Q (g bs) H) (foldI f) := by
  intro Z H d1 v1 F1 Q t1 p h
  cases d1 <;> first | exact h.elim | skip
  obtain ⟨bs, eb, h⟩ := mat_o h
  obtain ⟨pa, ws, e1, s1, b1⟩ := lst_bor t1 (fun z hz => (p.own z hz).2) p.zf
  have q := rep_ints b1 bs eb
  subst q
  exact ⟨pa, bs, e1, .of s1, h Z _ H [] (.sc p (e bs))⟩
def D.all := foldB fun bs => .bl (bs.all id)
def D.any := foldB fun bs => .bl (bs.any id)
def D.sum := foldI fun bs => .int bs.sum
theorem cr_allD (hc : X.calm = true) : CallR X (.builtin "all") fun vs H Q => ∃ v, vs = [v] ∧ ∃ (a : Addr) (bs : List Bool), v = .ref a ∧ SqL X.K H a (bs.map V.bl) ∧ Q (.bl (bs.all id)) H := CallR.imp (cr_all hc) fun vs H Q ⟨v, e, p, ys, l, q⟩ => ⟨p, ys, by rw [e, l], q⟩
theorem cr_anyD (hc : X.calm = true) : CallR X (.builtin "any") fun vs H Q => ∃ v, vs = [v] ∧ ∃ (a : Addr) (bs : List Bool), v = .ref a ∧ SqL X.K H a (bs.map V.bl) ∧ Q (.bl (bs.any id)) H := CallR.imp (cr_any hc) fun vs H Q ⟨v, e, p, ys, l, q⟩ => ⟨p, ys, by rw [e, l], q⟩
theorem cr_sumD (hc : X.calm = true) : CallR X (.builtin "sum") fun vs H Q => ∃ v, vs = [v] ∧ ∃ (a : Addr) (bs : List Int), v = .ref a ∧ SqL X.K H a (bs.map V.int) ∧ Q (.int bs.sum) H := CallR.imp (cr_sum hc) fun vs H Q ⟨v, e, p, ys, l, q⟩ => ⟨p, ys, by rw [e, l], q⟩
end
end Dn

set_option Elab.async false
set_option linter.all false
set_option maxRecDepth 100000
namespace Dn
open PySem PySem.Spec PyProof.Rows L2

/-! ## calls of the text's own defs -/
abbrev FD := List D → T D
/-- what is handed over stands still for the call -/
def toArg : D → D
  | .lst f xs => .lst ((eff .arg f).getD .arg) xs
  | .dic f xs => .dic ((eff .arg f).getD .arg) xs
  | d => d
/-- a def's promise: it does what f does -/
def spF (K : PySem.W.Frag) (n : Nat) (f : FD) : Sp := fun vs H Q _ => ∃ (Z : Addr → Prop) (pot : Option Addr) (ds : List D), ds.length = n ∧
  RepL K ⟨Z, fun p => H p ≠ none ∧ some p ≠ pot, fun _ => False, pot⟩ H .arg ds vs [] ∧ (∀ p, pot = some p → PotObj (H p)) ∧ (∀ p, Z p → H p ≠ none ∧ some p ≠ pot) ∧
  (f ds).Holds fun d => ∀ Z' v H' F, FnOut K pot Z H d Z' v H' F → Q v H'
/-- a body run at its arguments: so many slots in all -/
def runF (slots : Nat) (s : SD) : FD := fun ds => (s (ds.map (fun d => some (toArg d)) ++ List.replicate (slots - ds.length) none)).bind fun o => match o with
  | .rt d => .ret d
  | .nx _ => .ret .non
  | _ => .fail
section
variable {K : PySem.W.Frag} {G : Gh}
theorem spF_len {n : Nat} {f : FD} {vs : List V} {H : Hp} {Q : VK} {E : XK} (h : spF K n f vs H Q E) : vs.length = n := by
  obtain ⟨Z, pot, ds, e, r, _⟩ := h
  rw [← r.len, e]
/-- some of them, in another sequence -/
def perm {α : Type} (ix : List Nat) (l : List α) : List α := ix.filterMap fun i => l[i]?
theorem RepL.perm {Z : Zs} {H : Hp} {m : Fl} {ds : List D} {vs : List V} (r : RepL K Z H m ds vs []) : ∀ ix : List Nat, RepL K Z H m (perm ix ds) (perm ix vs) []
  | [] => .nil
  | i :: ix => by
    have ih := RepL.perm r ix
    unfold Dn.perm at ih ⊢
    rw [List.filterMap_cons, List.filterMap_cons]
    cases e : ds[i]? with
    | none =>
      have e2 : vs[i]? = none := by
        rw [List.getElem?_eq_none_iff] at e ⊢
        rw [← r.len]; exact e
      rw [e2]
      exact ih
    | some d =>
      obtain ⟨v, F1, ev, sub, r1⟩ := r.at e
      have eF : F1 = [] := List.sublist_nil.mp sub
      subst eF
      rw [ev]
      exact RepL.cons1 r1 ih
theorem Vals.perm {vs : List V} {us : List Value} (r : Vals vs us) : ∀ ix : List Nat, Vals (Dn.perm ix vs) (Dn.perm ix us)
  | [] => .nil
  | i :: ix => by
    have ih := Vals.perm r ix
    unfold Dn.perm at ih ⊢
    rw [List.filterMap_cons, List.filterMap_cons]
    cases e : vs[i]? with
    | none =>
      rw [r.none_of e]
      exact ih
    | some v =>
      obtain ⟨u, eu, ru⟩ := r.get e
      rw [eu]
      exact .cons ru ih
/-- such a list of numbers of arguments alone -/
def callF (n : Nat) (f : FD) : List D → T D := fun ds => if ds.length = n then f ds else .fail
def callP (ix : List Nat) (n : Nat) (f : FD) : List D → T D := fun ds => if ds.length = n ∧ (perm ix ds).length = n then f (perm ix ds) else .fail
theorem o_callP (ix : List Nat) (n : Nat) (f : FD) : OpN K G (fun vs H Q => spF K n f (perm ix vs) H Q E0) (callP ix n f) := by
  intro Z H ds vs F Q t p h
  obtain ⟨c, h⟩ := ite_holds h
  refine ⟨Z, G.pot, perm ix ds, c.2, RepL.perm ?_ ix, p.pot, p.zf, h.mono fun d h Z' v H' F' o => ?_⟩
  · refine t.t.demote (by decide) (fun z => nomatch z) (fun z => nomatch z) (fun _ z => z) (fun q z => ?_) (fun _ z => z) (fun q o e hq => ⟨by rw [e]; simp, (p.own q hq).2⟩) (fun _ q o e hq => ⟨by rw [e]; simp, ?_⟩)
    · refine ⟨?_, z.2⟩
      cases e : G.H0 q with
      | none => exact absurd e z.1
      | some o => rw [p.gr.keep q o z.2 e]; simp
    · rcases hq with z | z | z
      · exact (p.zf q z).2
      · exact z.2
      · exact z
  · have r : RepL K (G.zs Z') H' .own [d] [v] F' := o.rep.carry (fun _ z => z) (fun _ z => z.elim) (fun _ _ z => z) (fun _ z => z) (fun _ _ _ e => e) fun _ _ e => e
    have nb : topBor d = false := by
      cases d with
      | lst g _ => cases g <;> first | rfl | (cases r with
        | sc e _ => simp [scV] at e
        | own e0 _ _ _ => simp [eff] at e0
        | shr e0 e1 _ _ _ => simp [eff] at e0; subst e0; exact e1.elim)
      | dic g _ => cases g <;> first | rfl | (cases r with
        | sc e _ => simp [scV] at e
        | down e0 _ _ _ _ => simp [eff] at e0
        | dshr e0 e1 _ _ _ _ => simp [eff] at e0; subst e0; exact e1.elim)
      | _ => rfl
    exact h Z' v H' F' ⟨o.go.grow, o.go.potB, o.go.zle, fun q z => (o.go.znew q z).elim .inl fun n => .inr (.inl n), o.go.zB, .inr ⟨nb, r⟩, fun q hq => ⟨.inl (o.new.new q hq).1, (o.new.new q hq).2⟩, o.new.nd⟩
theorem perm_all {α : Type} : ∀ (l : List α) (k : Nat), (List.range' k (l.length - k)).filterMap (fun i => l[i]?) = l.drop k := by
  intro l k
  generalize hn : l.length - k = n
  induction n generalizing k with
  | zero => simp [List.drop_eq_nil_of_le (show l.length ≤ k by omega)]
  | succ n ih =>
    have hk : k < l.length := by omega
    rw [List.range'_succ, List.filterMap_cons, List.getElem?_eq_getElem hk, ih (k + 1) (by omega), List.drop_eq_getElem_cons hk]
theorem perm_id {α : Type} (l : List α) : perm (List.range l.length) l = l := by
  have := perm_all l 0
  rw [Nat.sub_zero, List.drop_zero] at this
  unfold perm
  rw [List.range_eq_range']
  exact this
theorem o_call (n : Nat) (f : FD) : OpN K G (fun vs H Q => spF K n f vs H Q E0) (callF n f) := by
  intro Z H ds vs F Q t p h
  obtain ⟨c, h⟩ := ite_holds h
  have e1 : perm (List.range n) ds = ds := by rw [← c]; exact perm_id ds
  have e2 : perm (List.range n) vs = vs := by rw [← c, t.len]; exact perm_id vs
  have q : spF K n f (perm (List.range n) vs) H Q E0 := o_callP (K := K) (G := G) (List.range n) n f Z H ds vs F Q t p (by
    unfold callP
    rw [e1, if_pos ⟨c, c⟩]
    exact h)
  rw [e2] at q
  exact q
/-- the slots at a call's entry -/
theorem start_rel {Z : Addr → Prop} {pot : Option Addr} {H : Hp} {N : List Str} {ds : List D} {vs : List V} (r : RepL K ⟨Z, fun p => H p ≠ none ∧ some p ≠ pot, fun _ => False, pot⟩ H .arg ds vs [])
    (hp : ∀ p, pot = some p → PotObj (H p)) (hz : ∀ p, Z p → H p ≠ none ∧ some p ≠ pot) : StRel K ⟨H, pot, Z⟩ Z (ds.map (fun d => some (toArg d)) ++ List.replicate (N.length - ds.length) none) (start N vs) H := by
  have hl := r.len
  refine ⟨fun _ => [], ?_, fun i d e => ?_, fun _ => List.nodup_nil, fun _ _ _ h => (nomatch h), fun _ _ h => (nomatch h), hz, ⟨fun _ _ _ h => h⟩, hp, hp, fun p z => ⟨z, hz p z⟩, fun p z => .inl z⟩
  · show (vs.map some ++ List.replicate (N.length - vs.length) none).length = _
    rw [List.length_append, List.length_append, List.length_map, List.length_map, List.length_replicate, List.length_replicate, hl]
  · by_cases hi : i < ds.length
    · rw [List.getElem?_append_left (by simpa using hi), List.getElem?_map] at e
      cases q : ds[i]? with
      | none => rw [q] at e; cases e
      | some d0 =>
        rw [q] at e
        have e' : toArg d0 = d := by
          injection e with e
          injection e
        subst e'
        obtain ⟨v, F1, ev, _, r1⟩ := r.at q
        have eF := r1.nofp (by decide)
        subst eF
        refine ⟨v, ?_, ?_⟩
        · show (vs.map some ++ _)[i]? = _
          rw [List.getElem?_append_left (by rw [List.length_map, ← hl]; exact hi), List.getElem?_map, ev]
          rfl
        · have q2 := r1.out (by decide)
          have e3 : deg .arg d0 = toArg d0 := by
            cases d0 with
            | lst f xs => cases f <;> rfl
            | dic f xs => cases f <;> rfl
            | _ => rfl
          rw [e3] at q2
          exact q2
    · rw [List.getElem?_append_right (by simpa using hi), List.getElem?_replicate] at e
      split at e <;> cases e
end

/-! ### the same, where no repr is under way -/
structure FnG (P : Program) (w : World) (K : PySem.W.Frag) (mg : Str → Option Value) (base : Heap) (k : Nat) (f : Addr) (fd : FuncData) (ps : List Str) (sp : Sp) : Prop where
  len : ∀ vs H Q E, sp vs H Q E → vs.length = ps.length
  run : ∀ (A : Around) (outer : List PySem.Env) (s : Shared) (H : Hp) (args : Args) (us : List Value) (vs : List V) (Q : VK) (E : XK), Room k A → A.guards = some [] → Env0 P w K mg base A outer s H →
    BindsTo s fd args (ps.zip us) → Vals vs us → sp vs H Q E → codeAny (model P w) A (.call (.ref f) args) (CR CX0 outer P w H s Q E) s
section
variable {P : Program} {w : World} {K : PySem.W.Frag} {mg : Str → Option Value} {base : Heap} {f : Addr} {fd : FuncData} {ps : List Str} {sp : Sp}
theorem FnG.up {j k : Nat} (F : FnG P w K mg base j f fd ps sp) (h : j ≤ k) : FnG P w K mg base k f fd ps sp :=
  ⟨F.len, fun A outer s H args us vs Q E r => F.run A outer s H args us vs Q E (r.mono h)⟩
theorem FnG.of {k : Nat} (F : FnOk P w K mg base CX0 k f fd ps sp) : FnG P w K mg base k f fd ps sp :=
  ⟨F.len, fun A outer s H args us vs Q E r _ => F.run A outer s H args us vs Q E r⟩
/-- a def, by its body -/
theorem fnG {x qual : Str} {params : Arguments} {body : List Stmt} {scope : Scope} {dvs : List V} {kws : List (Str × V)} {N : List Str} {k : Nat} (F : FunD K x qual params body scope dvs kws f fd) (S : FnScope N ps scope)
    (len : ∀ vs H Q E, sp vs H Q E → vs.length = ps.length)
    (hbody : ∀ (cdv : Value) (A : Around) (outer : List PySem.Env) (s : Shared) (H : Hp) (vs : List V) (Q : VK) (E : XK), A.guards = some [] → Room k (A.deeper (envOfC qual scope s.heap.objs.size f cdv)) → sp vs H Q E →
      ∃ t, PSs (cxOf CX0 P w K mg base N qual scope f cdv A outer s H E).nox body t ∧ t { nx := fun _ H' => Q .non H', rt := Q } (start N vs) H) : FnG P w K mg base (k + 1) f fd ps sp := by
  obtain ⟨oc, od, dV, kV, doc, pm, an, cdv, ct, osl, rfl, lk, hcd, _, _⟩ := F.ex
  constructor
  · exact len
  intro A outer s H args us vs Q E room hg e0 hb rv hsp
  have hlen := len _ _ _ _ hsp
  have old : ∀ b o, base.get? b = some o → s.heap.get? b = some o := fun b o e => (e0.bs b o e).1
  refine codeAny_call_function room.depth (e0.mod.kin.keeps old _ _ lk) rfl S.co S.gen rfl (PySem.W.codeRec_of (e0.mod.kin.keeps old) hcd) (hb _ _ _ _ ?_)
  refine wpAny_newFunctionEnv_cells S.kind (fun y hy => ?_) fun env he s1 x => ?_
  · obtain ⟨n, v⟩ := y
    exact (S.par n (List.of_mem_zip hy).1).imp id fun q => ⟨q, PySem.W.cellsFrom_some _ _ _ (.inl q)⟩
  subst he
  have lim : s.heap.NoLimit := e0.mod.nolimit.keeps old
  refine ⟨lim.keeps x.toInCall.keep, codeAny_func ?_⟩
  obtain ⟨t, ht, hq⟩ := hbody cdv A outer s H vs Q E hg (room.deeper _) hsp
  have I0 : Inv (cxOf CX0 P w K mg base N qual scope f cdv A outer s H E) [] (start N vs) H s1 := inv_start S room.hd e0 hlen rv x
  refine wpAny_mono (ht.nox.run [] s1 (start N vs) H _ I0 hq) (fun fl s' hs => ?_) fun e s' hs => hs
  cases fl with
  | ret u => exact let ⟨v, σ', H', J, r, q⟩ := hs; ⟨v, H', J.os, J.bare, J.base, J.hok, r, q⟩
  | next => exact let ⟨σ', H', J, q⟩ := hs; ⟨V.non, H', J.os, J.bare, J.base, J.hok, rfl, q⟩
  | brk => exact let ⟨_, _, _, q⟩ := hs; (show False from q).elim
  | cont => exact let ⟨_, _, _, q⟩ := hs; (show False from q).elim
/-- .. that does what the function of its body does -/
theorem fnF {x qual : Str} {params : Arguments} {body : List Stmt} {scope : Scope} {dvs : List V} {kws : List (Str × V)} {N : List Str} {k : Nat} {s : SD} (F : FunD K x qual params body scope dvs kws f fd) (S : FnScope N ps scope)
    (hbody : ∀ (cdv : Value) (A : Around) (outer : List PySem.Env) (sh : Shared) (H : Hp) (E : XK), A.guards = some [] → Room k (A.deeper (envOfC qual scope sh.heap.objs.size f cdv)) → ∀ G : Gh,
      PSs (cxOf CX0 P w K mg base N qual scope f cdv A outer sh H E).nox body (RdS K G s)) : FnG P w K mg base (k + 1) f fd ps (spF K ps.length (runF N.length s)) := by
  refine fnG F S (fun vs H Q E h => spF_len h) fun cdv A outer sh H vs Q E hg hr h => ?_
  obtain ⟨Z, pot, ds, e, r, hp, hz, h⟩ := h
  refine ⟨_, hbody cdv A outer sh H E hg hr ⟨H, pot, Z⟩, Z, _, start_rel r hp hz, (T.holds_bind h).mono fun o h => ?_⟩
  cases o with
  | nx env => exact fun Z' σ' H' S' _ => let ⟨Fs, S'⟩ := S'; h Z' .non H' [] (fnOut_of S' (.sc rfl .nil) .nil rfl)
  | rt d => exact h
  | bk _ => exact h.elim
  | ct _ => exact h.elim
end
section
variable {X : Cx} {G : Gh} {k n : Nat} {f : Addr} {fd : FuncData} {ps ks : List Str} {x : Str} {p pos : Pos} {e : Expr} {es : List Expr} {kws : List Keyword} {fn : FD} {ea ek : Env → T (List D)}
theorem runG {sp : Sp} {pins : List (Addr × Obj)} {σ : L2.St} {H : Hp} {s : Shared} {Q : VK} {args : Args} {us : List Value} {vs : List V} (F : FnG X.prog X.w X.K X.mg X.base k f fd ps sp) (hr : Room k X.A) (hg : X.A.guards = some [])
    (I : Inv X pins σ H s) (hb : BindsTo s fd args (ps.zip us)) (r : Vals vs us) (h : sp vs H Q E0) : codeAny (model X.prog X.w) X.A (.call (.ref f) args) (fun r s' => match r with
      | .ok (.ret u) => EP X pins σ Q u s'
      | .ok _ => False
      | .error e => X.xe e s') s := by
  refine codeAny_mono (F.run X.A X.stack s H args us vs Q E0 hr hg I.env0 hb r h) fun res s' q => ?_
  cases res with
  | error e => exact q.elim
  | ok fl => cases fl with
    | ret u => exact I.after q
    | next => exact q
    | brk => exact q
    | cont => exact q
theorem ee_call (F : FnG X.prog X.w X.K X.mg X.base k f fd ps (spF X.K ps.length fn)) (hr : Room k X.A) (hg : X.A.guards = some []) (hgl : Gl X x) (hm : X.mg x = some (.ref f)) (hk : PySem.W.keepIn X.K (.ref f) = true) (hb : Binds X.K fd ps [])
    (ha : PA X (e :: es) (RdA X.K G ea)) (hdb : (x == ("__debug__" : Str)) = false := by decide) (he : starEach (e :: es) X.env = (false, eval e X.env) :: starEach es X.env := by rfl) (hpl : (backTo pos (starEach es X.env)).any (·.1) = false := by rfl) :
    PE X (.Call (.Name x p) (e :: es) [] pos) (RdE X.K G (callN (callF ps.length fn) ea)) := by
  constructor
  intro pins s σ H Q I h
  refine wpAny_Call_Name_kw (ld_glob I hgl hm ?_ hdb)
  have h' := rdN (o_call (K := X.K) (G := G) ps.length fn) h
  refine PySem.W.callWith_K (h₀ := X.base) I.ok.mod.kin hk (thn (ha.run pos pins s σ H _ I h') fun us s1 hh => ?_) he hpl
  obtain ⟨vs, H1, I1, r, q⟩ := hh
  refine ⟨I1.kIn, wpAny_call ?_⟩
  have hl : (us ++ []).length = ps.length := by rw [List.append_nil, ← r.length]; exact spF_len q
  have hb' := hb s1 us I1.kIn hl
  rw [List.append_nil] at hb'
  exact codeAny_mono (runG F hr hg I1 hb' r q) fun res s' q => by
    cases res with
    | error e => exact q
    | ok fl => cases fl <;> exact q
theorem ek_nil : PK X [] (RdA X.K G args0) := ⟨fun pos pins s σ H Q I h => pk_nil.run pos pins s σ H Q I (rdA_nil h)⟩
theorem ek_cons {nm : Str} {kpos : Pos} {da : Env → T D} {r : Env → T (List D)} (ha : PE X e (RdE X.K G da)) (hr : PK X kws (RdA X.K G r)) : PK X (⟨nm, e, kpos⟩ :: kws) (RdA X.K G (argsN da r)) :=
  ⟨fun pos pins s σ H Q I h => (pk_cons ha hr).run pos pins s σ H Q I (rdA_cons h)⟩
/-- a call by names alone -/
theorem ee_callK (ix : List Nat) (ks : List Str) (F : FnG X.prog X.w X.K X.mg X.base k f fd ps (spF X.K ps.length fn)) (hr : Room k X.A) (hg : X.A.guards = some []) (hgl : Gl X x) (hm : X.mg x = some (.ref f)) (hk : PySem.W.keepIn X.K (.ref f) = true)
    (hb : ∀ (s : Shared) (ws : List Value), ws.length = ps.length → BindsTo s fd ⟨[], ks.zip ws⟩ (ps.zip (perm ix ws))) (hkw : PK X kws (RdA X.K G ea)) (hix : ks.length = ps.length := by rfl)
    (hall : (backToKw pos (keywordEach kws X.env)).all (·.1.isSome) = true := by rfl) (hks : (backToKw pos (keywordEach kws X.env)).filterMap (·.1) = ks := by rfl) (hdb : (x == ("__debug__" : Str)) = false := by decide)
    (hpl : ((backTo pos (starEach [] X.env)).any (·.1) || (backToKw pos (keywordEach kws X.env)).any (·.1.isNone)) = false := by rfl) : PE X (.Call (.Name x p) [] kws pos) (RdE X.K G (callN (callP ix ps.length fn) ea)) := by
  constructor
  intro pins s σ H Q I h
  refine wpAny_Call_Name_kw (ld_glob I hgl hm ?_ hdb)
  obtain ⟨Z, env, S, h⟩ := h
  -- as many values as names
  have h2 : RdA X.K G ea σ H fun vs H1 => vs.length = ps.length ∧ spF X.K ps.length fn (perm ix vs) H1 Q E0 := by
    refine ⟨Z, env, S, (T.holds_bind h).mono fun d h Z1 v1 H1 F1 e => ?_⟩
    have c : d.length = ps.length ∧ (perm ix d).length = ps.length := (ite_holds h).1
    exact ⟨by rw [← e.tmp.len]; exact c.1, o_callP ix ps.length fn Z1 H1 d v1 F1 Q e.tmp (.of S e.go e.new) (h.mono fun d2 h Z' v H' F o => h Z' v H' F (o.ex e.go e.new))⟩
  refine PySem.W.callWith_KW0 (h₀ := X.base) I.ok.mod.kin hk hall (thn (hkw.run pos pins s σ H _ I h2) fun ws s1 hh => ?_) hpl
  obtain ⟨vs, H1, I1, r, hl, q⟩ := hh
  rw [hks]
  refine ⟨I1.kIn, wpAny_call ?_⟩
  exact codeAny_mono (runG F hr hg I1 (hb s1 ws (by rw [← r.length]; exact hl)) (Vals.perm r ix) q) fun res s' q => by
    cases res with
    | error e => exact q
    | ok fl => cases fl <;> exact q
end
end Dn

set_option Elab.async false
set_option linter.all false
set_option maxRecDepth 100000
namespace Dn
open PySem PySem.Spec PyProof.Rows L2

/-! ## what is walked -/
section
variable {K : PySem.W.Frag} {G : Gh} {X : Cx}
/-- what is given at turn i of a comprehension -/
def YldC (K : PySem.W.Frag) (G : Gh) (Z1 : Addr → Prop) (H1 : Hp) (es : List D) (i : Nat) (H : Hp) (x : V) (H' : Hp) : Prop :=
  ∀ Z2, Go G Z1 H1 Z2 H → Go G Z2 H Z2 H' ∧ ∃ d, es[i]? = some d ∧ RepL K (G.zs Z1) H' .own [d] [x] []
structure ItC (K : PySem.W.Frag) (G : Gh) (Z : Addr → Prop) (H : Hp) (es : List D) (Z' : Addr → Prop) (H' : Hp) (J : It) : Prop where
  go : Go G Z H Z' H'
  walk : Walk J es.length (fun H2 => ∃ Z2, Go G Z' H' Z2 H2) (YldC K G Z' H' es)
def RdC (K : PySem.W.Frag) (G : Gh) (e : Env → T (List D)) : TI := fun σ H R => ∃ Z env, StRel K G Z env σ H ∧ (e env).Holds fun es => ∀ Z' H' J, ItC K G Z H es Z' H' J → R J H'
/-- a list's items, for a walk; c: within an expression -/
def srcL (c : Bool) : D → T (List D)
  | .tup xs => .ret (xs.map (deg .frz))
  | .lst .own xs => .ret (xs.map (deg .frz))
  | .lst .bor xs => if (c && xs.all flatD) = true then .ret xs else .fail
  | .lst f xs => .ret (xs.map (deg f))
  | _ => .fail
def srcE (c : Bool) (e : Env → T D) : Env → T (List D) := fun env => (e env).bind (srcL c)
def iSeq (K : PySem.W.Frag) (tl : TE) : TI := fun σ H R => tl σ H fun x H1 => ∃ a, x = .ref a ∧ (((∃ xs, SqL K H1 a xs) ∧ R (Itl K a) H1) ∨ ((∃ xs, SqT K H1 a xs) ∧ R (Itt K a) H1))
theorem pi_seq {l tg : Expr} {tl : TE} (hl : PE X l tl) : PI X tg l (iSeq X.K tl) := by
  constructor
  intro pins s σ H R I h
  refine thn (hl.run pins s σ H _ I h) fun v s1 hh => ?_
  obtain ⟨x, H1, I1, r1, a, rfl, q⟩ := hh
  cases r1
  have fresh : ∀ b ∈ [s1.heap.objs.size], FpOk X pins H1 b := fun b hb => by
    have e := List.mem_singleton.mp hb
    rw [e]
    exact I1.fpOk (Nat.le_refl _) (I1.hok.fresh (Nat.le_refl _))
  rcases q with ⟨⟨xs, hq⟩, q⟩ | ⟨⟨xs, hq⟩, q⟩
  · obtain ⟨its, rv, p, hz⟩ := I1.list hq
    exact wpAny_pyIter_list p.isList ⟨_, [s1.heap.objs.size], _, _, H1, rfl, I1.kept (t' := s1.toks) fun b o e => Heap.get?_push_of_some _ e, turn_list a _, ⟨_, Heap.get?_push_size _ rfl, rfl, rfl⟩, fresh, q⟩
  · obtain ⟨its, rv, p, hz⟩ := I1.tuple hq
    exact wpAny_pyIter_tuple (show s1.heap.IsTuple a its.toArray from p) ⟨_, [s1.heap.objs.size], _, _, H1, rfl, I1.kept (t' := s1.toks) fun b o e => Heap.get?_push_of_some _ e, turn_tuple a _, ⟨_, Heap.get?_push_size _ rfl, rfl, rfl⟩, fresh, q⟩
/-- items that were read as g, each taken out -/
theorem RepL.outs {Z : Zs} {H : Hp} {g : Fl} (n : g ≠ .own) : ∀ {ds : List D} {vs : List V}, RepL K Z H g ds vs [] → RepL K Z H .own (ds.map (deg g)) vs []
  | [], _, h => by
    obtain ⟨rfl, _⟩ := h.nil_inv
    exact .nil
  | d :: ds, [], h => by have := h.len; simp at this
  | d :: ds, v :: vs, h => by
    obtain ⟨F1, F2, e, h1, h2⟩ := h.uncons
    obtain ⟨rfl, rfl⟩ := List.append_eq_nil_iff.mp e.symm
    exact RepL.cons1 (h1.out n) (RepL.outs n h2)
theorem RepL.each {Z : Zs} {H : Hp} {ds : List D} {vs : List V} (h : RepL K Z H .own ds vs []) {i : Nat} {x : V} (e : vs[i]? = some x) : ∃ d, ds[i]? = some d ∧ RepL K Z H .own [d] [x] [] := by
  have hi : i < ds.length := by rw [h.len]; exact (List.getElem?_eq_some_iff.mp e).1
  obtain ⟨v, F1, ev, sub, r⟩ := h.at (i := i) (d := ds[i]) (by simp [hi])
  have eF : F1 = [] := List.sublist_nil.mp sub
  subst eF
  rw [ev] at e
  cases e
  exact ⟨ds[i], by simp [hi], r⟩
/-- what is walked, frozen where it is new -/
def isTupD : D → Bool
  | .tup _ => true
  | _ => false
theorem srcL_out {Z : Addr → Prop} {H : Hp} {c : Bool} {d : D} {v : V} {F : List Addr} {Q : List D → Prop} (t : Tmp K G Z H d v F) (p : Pre K G Z H F) (h : (srcL c d).Holds Q) :
    ∃ es Z' a ws, Q es ∧ v = .ref a ∧ (∀ q, Z' q ↔ Z q ∨ q ∈ F) ∧ RepL K (G.zs Z') H .own es ws [] ∧ (((H a = some (.lst ws) ∧ (Z' a ∨ G.za a ∨ (c = true ∧ some a ≠ G.pot))) ∧ isTupD d = false) ∨ (TupX K H a ws ∧ isTupD d = true)) := by
  cases d with
  | tup xs =>
    obtain ⟨a, ws, e1, s1, r1, eF⟩ := tup_val t
    subst eF
    exact ⟨_, Z, a, ws, h, e1, fun q => ⟨.inl, fun z => z.elim id fun z => nomatch z⟩, r1.outs (by decide), .inr ⟨s1, rfl⟩⟩
  | lst f xs =>
    obtain ⟨a, ws, F', e1, s1, r1, g1, g2, g3⟩ := lst_val t
    cases f with
    | own =>
      have eF := g2 rfl
      have r2 := (g3 (by decide)).freeze
      refine ⟨_, fun q => Z q ∨ q ∈ F, a, ws, h, e1, fun q => Iff.rfl, RepL.outs (by decide) (r2.carry (fun q z => ?_) (fun _ z => z) (fun z => z.elim) (fun _ z => z) (fun _ _ _ e => e) fun _ _ e => e), .inl ⟨⟨s1, .inl (.inr (by rw [eF]; exact List.mem_cons_self))⟩, rfl⟩⟩
      exact z.elim .inl fun z => .inr (by rw [eF]; exact List.mem_cons_of_mem _ z)
    | bor =>
      obtain ⟨cc, h⟩ := ite_holds h
      rw [Bool.and_eq_true] at cc
      have eF' := g1 (by decide)
      subst eF'
      have eF : F = [] := by
        rcases t with ⟨_, e, _⟩ | ⟨z, _⟩
        · exact e
        · cases z
      subst eF
      refine ⟨_, Z, a, ws, h, e1, fun q => ⟨.inl, fun z => z.elim id fun z => nomatch z⟩, r1.flat (fun _ z => z) (fun _ z => z) (fun _ z => z) cc.2, .inl ⟨⟨s1, .inr (.inr ⟨cc.1, ?_⟩)⟩, rfl⟩⟩
      intro z
      obtain ⟨i, j, e, _⟩ := p.pot a z.symm
      cases t.t with
      | sc e _ => simp [scV] at e
      | shr e0 e1 _ _ _ =>
        simp [eff] at e0
        subst e0
        cases ‹V.ref _ = V.ref _›
        exact (e1 : some _ ≠ G.pot) z
    | frz =>
      have eF' := g1 (by decide)
      subst eF'
      have r := t.t
      cases r with
      | sc e _ => simp [scV] at e
      | own e0 _ _ _ => simp [eff] at e0
      | shr e0 e1' _ _ hn =>
        simp [eff] at e0
        subst e0
        cases e1
        cases hn
        exact ⟨_, Z, _, ws, h, rfl, fun q => ⟨.inl, fun z => z.elim id fun z => nomatch z⟩, (g3 (by decide)).outs (by decide), .inl ⟨⟨s1, .inl e1'⟩, rfl⟩⟩
    | arg =>
      have eF' := g1 (by decide)
      subst eF'
      have r := t.t
      cases r with
      | sc e _ => simp [scV] at e
      | own e0 _ _ _ => simp [eff] at e0
      | shr e0 e1' _ _ hn =>
        simp [eff] at e0
        subst e0
        cases e1
        cases hn
        exact ⟨_, Z, _, ws, h, rfl, fun q => ⟨.inl, fun z => z.elim id fun z => nomatch z⟩, (g3 (by decide)).outs (by decide), .inl ⟨⟨s1, .inr (.inl e1')⟩, rfl⟩⟩
  | _ => exact h.elim
theorem Go.more1 {Z Z1 Z' : Addr → Prop} {H H1 : Hp} {F : List Addr} (g : Go G Z H Z1 H1) (n : New G H Z1 F) (k : ∀ p ∈ F, H1 p ≠ none) (hz : ∀ q, Z' q ↔ Z1 q ∨ q ∈ F) : Go G Z H Z' H1 where
  grow := g.grow
  potA := g.potA
  potB := g.potB
  zle := fun p z => (hz p).mpr (.inl (g.zle p z))
  znew := fun p z => ((hz p).mp z).elim (g.znew p) fun m => .inr (n.new p m).1
  zA := g.zA
  zB := fun p z => ((hz p).mp z).elim (g.zB p) fun m => ⟨k p m, (n.new p m).2.2⟩
theorem Stab.rep {Z : Addr → Prop} {H H' : Hp} {ds : List D} {vs : List V} (st : Stab K G Z H H') (r : RepL K (G.zs Z) H .own ds vs []) : RepL K (G.zs Z) H' .own ds vs [] :=
  r.carry (fun _ z => z) (fun _ z => z) (fun _ _ z => z) (fun _ z => z) (fun p o l e => st.1 p o (by
    rcases l with l | l | l | l
    · cases l
    · exact .inl l
    · exact .inr l
    · exact l.2.elim) e) st.2
theorem Go.stab {Z Z2 : Addr → Prop} {H H2 : Hp} (g : Go G Z H Z2 H2) : Stab K G Z H H2 :=
  ⟨fun p o h e => g.grow.keep p o (h.elim (fun z => (g.zA p z).2) fun z => z.2) e, fun _ _ h => g.sqt h⟩
theorem ei_for {l tg : Expr} {de : Env → T D} (he : PE X l (RdE X.K G de)) : PI X tg l (RdI X.K G (srcE false de)) := PI.imp (pi_seq he) fun σ H R h => by
  obtain ⟨Z, env, S, h⟩ := h
  refine ⟨Z, env, S, (T.holds_bind h).mono fun d h Z1 v H1 F e => ?_⟩
  obtain ⟨es, Z', a, ws, h, ev, hz, r, q⟩ := srcL_out e.tmp (.of S e.go e.new) h
  have g := e.go.more1 e.new e.tmp.known hz
  have l := r.len
  refine ⟨a, ev, ?_⟩
  rcases q with ⟨⟨s1, q⟩, _⟩ | ⟨s1, _⟩
  · refine .inl ⟨⟨ws, .of s1⟩, h Z' H1 _ ⟨g, ?_⟩⟩
    rw [l]
    refine walk_list.mono (fun H' st => .of (st.1 a _ ?_ s1)) fun i H2 x H3 _ st y Z2 _ hp hf => ?_
    · exact q.imp id fun q => q.elim id fun z => Bool.noConfusion z.1
    · obtain ⟨rfl, ey⟩ := y
      exact ⟨.refl hp hf, (st.rep r).each ey⟩
  · refine .inr ⟨⟨ws, s1.sq⟩, h Z' H1 _ ⟨g, ?_⟩⟩
    rw [l]
    refine walk_tup.mono (fun H' st => (st.2 a _ s1).sq) fun i H2 x H3 _ st y Z2 _ hp hf => ?_
    obtain ⟨rfl, ey⟩ := y
    exact ⟨.refl hp hf, (st.rep r).each ey⟩
theorem ei_comp {l tg : Expr} {de : Env → T D} (he : PE X l (RdE X.K G de)) : PI X tg l (RdC X.K G (srcE true de)) := PI.imp (pi_seq he) fun σ H R h => by
  obtain ⟨Z, env, S, h⟩ := h
  refine ⟨Z, env, S, (T.holds_bind h).mono fun d h Z1 v H1 F e => ?_⟩
  obtain ⟨es, Z', a, ws, h, ev, hz, r, q⟩ := srcL_out e.tmp (.of S e.go e.new) h
  have g := e.go.more1 e.new e.tmp.known hz
  have l := r.len
  refine ⟨a, ev, ?_⟩
  rcases q with ⟨⟨s1, q⟩, _⟩ | ⟨s1, _⟩
  · refine .inl ⟨⟨ws, .of s1⟩, h Z' H1 _ ⟨g, ?_⟩⟩
    rw [l]
    refine walk_list.mono (fun H' ⟨Z2, g2⟩ => .of (g2.grow.keep a _ ?_ s1)) fun i H2 x H3 _ ⟨Z2, g2⟩ y Z3 g3 => ?_
    · rcases q with q | q | q
      · exact (g.zB a q).2
      · exact q.2
      · exact q.2
    · obtain ⟨rfl, ey⟩ := y
      exact ⟨.refl g3.potB g3.zB, (g2.stab.rep r).each ey⟩
  · refine .inr ⟨⟨ws, s1.sq⟩, h Z' H1 _ ⟨g, ?_⟩⟩
    rw [l]
    refine walk_tup.mono (fun H' ⟨Z2, g2⟩ => (g2.sqt s1).sq) fun i H2 x H3 _ ⟨Z2, g2⟩ y Z3 g3 => ?_
    obtain ⟨rfl, ey⟩ := y
    exact ⟨.refl g3.potB g3.zB, (g2.stab.rep r).each ey⟩
/-! ### ranges -/
def rgD (a b : Int) : List D := (List.range (b - a).toNat).map fun i => .int (a + (i : Nat))
def rg1 (e : Env → T D) : Env → T (Int × Int) := fun env => (e env).bind fun d => match d with
  | .int n => .ret (0, n)
  | _ => .fail
def rg2 (e f : Env → T D) : Env → T (Int × Int) := fun env => (e env).bind fun d => (f env).bind fun d' => match d, d' with
  | .int n, .int m => .ret (n, m)
  | _, _ => .fail
def srcR (r : Env → T (Int × Int)) : Env → T (List D) := fun env => (r env).bind fun p => if -1000000 ≤ p.1 ∧ p.1 ≤ 1000000 ∧ -1000000 ≤ p.2 ∧ p.2 ≤ 1000000 then .ret (rgD p.1 p.2) else .fail
theorem rgD_len (a b : Int) : (rgD a b).length = (b - a).toNat := by unfold rgD; rw [List.length_map, List.length_range]
theorem rgD_at {a b : Int} {i : Nat} (h : i < (b - a).toNat) : (rgD a b)[i]? = some (.int (a + i)) := by
  unfold rgD
  rw [List.getElem?_map, List.getElem?_range h]
  rfl
theorem walk_rgI {Z : Addr → Prop} {H : Hp} {a b : Int} : Walk (Itr a (b - a).toNat) (rgD a b).length (Stab K G Z H) (Yld K G Z (rgD a b)) := by
  rw [rgD_len]
  refine walk_range.mono (fun _ _ => trivial) fun i H2 x H3 hi _ y Z2 _ hp hf => ?_
  obtain ⟨rfl, rfl⟩ := y
  exact ⟨.refl hp hf, _, rgD_at hi, .sc rfl .nil⟩
theorem walk_rgC {Z : Addr → Prop} {H : Hp} {a b : Int} : Walk (Itr a (b - a).toNat) (rgD a b).length (fun H2 => ∃ Z2, Go G Z H Z2 H2) (YldC K G Z H (rgD a b)) := by
  rw [rgD_len]
  refine walk_range.mono (fun _ _ => trivial) fun i H2 x H3 hi _ y Z2 g => ?_
  obtain ⟨rfl, rfl⟩ := y
  exact ⟨.refl g.potB g.zB, _, rgD_at hi, .sc rfl .nil⟩
theorem rg1_out {Z : Addr → Prop} {env : Env} {σ : L2.St} {H : Hp} {e : Env → T D} {P : Int × Int → Prop} (S : StRel K G Z env σ H) (h : (rg1 e env).Holds P) : RdA K G (argsN e args0) σ H fun vs H1 => ∃ n : Int, vs = [.int n] ∧ P (0, n) ∧ ∃ Z', Go G Z H Z' H1 := by
  refine ⟨Z, env, S, T.bind_holds ((T.holds_bind h).mono fun d h => ?_)⟩
  cases d <;> first | exact h.elim | skip
  intro Z' vs H' F o
  cases o.tmp with
  | cons t1 t2 =>
    cases t2
    exact ⟨_, by rw [int_val t1], h, Z', o.go⟩
theorem rg2_out {Z : Addr → Prop} {env : Env} {σ : L2.St} {H : Hp} {e f : Env → T D} {P : Int × Int → Prop} (S : StRel K G Z env σ H) (h : (rg2 e f env).Holds P) : RdA K G (argsN e (argsN f args0)) σ H fun vs H1 => ∃ n m : Int, vs = [.int n, .int m] ∧ P (n, m) ∧ ∃ Z', Go G Z H Z' H1 := by
  refine ⟨Z, env, S, T.bind_holds ((T.holds_bind h).mono fun d h => T.bind_holds (T.bind_holds ((T.holds_bind h).mono fun d' h => ?_)))⟩
  cases d <;> cases d' <;> first | exact h.elim | skip
  intro Z' vs H' F o
  cases o.tmp with
  | cons t1 t2 =>
    cases t2 with
    | cons t2 t3 =>
      cases t3
      exact ⟨_, _, by rw [int_val t1, int_val t2], h, Z', o.go⟩
theorem ei_range1 {a tg : Expr} {p pos : Pos} {de : Env → T D} (hg : Gl X "range") (hm : X.mg "range" = none) (ha : PA X [a] (RdA X.K G (argsN de args0))) (hs : starEach [a] X.env = [(false, eval a X.env)] := by rfl) : PI X tg (.Call (.Name "range" p) [a] [] pos) (RdI X.K G (srcR (rg1 de))) :=
  PI.imp (pi_range1 hg hm ha hs) fun σ H R h => by
    obtain ⟨Z, env, S, h⟩ := h
    obtain ⟨Z0, env0, S0, q⟩ := rg1_out S (T.holds_bind h)
    refine ⟨Z0, env0, S0, q.mono fun ds q Z' vs H' F o => ?_⟩
    obtain ⟨n, ev, q, Z2, g⟩ := q Z' vs H' F o
    obtain ⟨c, q⟩ := ite_holds q
    have e : (n - 0).toNat = n.toNat := by omega
    have w := walk_rgI (K := X.K) (G := G) (Z := Z2) (H := H') (a := 0) (b := n)
    rw [e] at w
    exact ⟨n, ev, by have := c.2.2; omega, by have := c.2.2; omega, q Z2 H' _ ⟨g, w⟩⟩
theorem ei_range1C {a tg : Expr} {p pos : Pos} {de : Env → T D} (hg : Gl X "range") (hm : X.mg "range" = none) (ha : PA X [a] (RdA X.K G (argsN de args0))) (hs : starEach [a] X.env = [(false, eval a X.env)] := by rfl) : PI X tg (.Call (.Name "range" p) [a] [] pos) (RdC X.K G (srcR (rg1 de))) :=
  PI.imp (pi_range1 hg hm ha hs) fun σ H R h => by
    obtain ⟨Z, env, S, h⟩ := h
    obtain ⟨Z0, env0, S0, q⟩ := rg1_out S (T.holds_bind h)
    refine ⟨Z0, env0, S0, q.mono fun ds q Z' vs H' F o => ?_⟩
    obtain ⟨n, ev, q, Z2, g⟩ := q Z' vs H' F o
    obtain ⟨c, q⟩ := ite_holds q
    have e : (n - 0).toNat = n.toNat := by omega
    have w := walk_rgC (K := X.K) (G := G) (Z := Z2) (H := H') (a := 0) (b := n)
    rw [e] at w
    exact ⟨n, ev, by have := c.2.2; omega, by have := c.2.2; omega, q Z2 H' _ ⟨g, w⟩⟩
theorem ei_range2 {a b tg : Expr} {p pos : Pos} {de df : Env → T D} (hg : Gl X "range") (hm : X.mg "range" = none) (ha : PA X [a, b] (RdA X.K G (argsN de (argsN df args0)))) (hs : starEach [a, b] X.env = [(false, eval a X.env), (false, eval b X.env)] := by rfl) (hs2 : starEach [b] X.env = [(false, eval b X.env)] := by rfl) :
    PI X tg (.Call (.Name "range" p) [a, b] [] pos) (RdI X.K G (srcR (rg2 de df))) :=
  PI.imp (pi_range2 hg hm ha hs hs2) fun σ H R h => by
    obtain ⟨Z, env, S, h⟩ := h
    obtain ⟨Z0, env0, S0, q⟩ := rg2_out S (T.holds_bind h)
    refine ⟨Z0, env0, S0, q.mono fun ds q Z' vs H' F o => ?_⟩
    obtain ⟨n, m, ev, q, Z2, g⟩ := q Z' vs H' F o
    obtain ⟨c, q⟩ := ite_holds q
    exact ⟨n, m, ev, ⟨by have := c.1; omega, by have := c.2.1; omega, by have := c.2.2.1; omega, by have := c.2.2.2; omega⟩, q Z2 H' _ ⟨g, walk_rgI⟩⟩
theorem ei_range2C {a b tg : Expr} {p pos : Pos} {de df : Env → T D} (hg : Gl X "range") (hm : X.mg "range" = none) (ha : PA X [a, b] (RdA X.K G (argsN de (argsN df args0)))) (hs : starEach [a, b] X.env = [(false, eval a X.env), (false, eval b X.env)] := by rfl) (hs2 : starEach [b] X.env = [(false, eval b X.env)] := by rfl) :
    PI X tg (.Call (.Name "range" p) [a, b] [] pos) (RdC X.K G (srcR (rg2 de df))) :=
  PI.imp (pi_range2 hg hm ha hs hs2) fun σ H R h => by
    obtain ⟨Z, env, S, h⟩ := h
    obtain ⟨Z0, env0, S0, q⟩ := rg2_out S (T.holds_bind h)
    refine ⟨Z0, env0, S0, q.mono fun ds q Z' vs H' F o => ?_⟩
    obtain ⟨n, m, ev, q, Z2, g⟩ := q Z' vs H' F o
    obtain ⟨c, q⟩ := ite_holds q
    exact ⟨n, m, ev, ⟨by have := c.1; omega, by have := c.2.1; omega, by have := c.2.2.1; omega, by have := c.2.2.2; omega⟩, q Z2 H' _ ⟨g, walk_rgC⟩⟩
end
end Dn

set_option Elab.async false
set_option linter.all false
set_option maxRecDepth 100000
namespace Dn
open PySem PySem.Spec PyProof.Rows L2

/-! ## targets that are tuples -/
abbrev TgL := List D → Env → T Env
def RdGs (K : PySem.W.Frag) (G : Gh) (sl : List Nat) (t : TgL) : TGs := fun vs σ H Q => ∃ Z env ds, StRel K G Z env σ H ∧ RepL K (G.zs Z) H .own ds vs [] ∧ (t ds env).Holds fun env' => ∀ σ' : L2.St, StRel K G Z env' σ' H → Unch sl σ σ' → Q σ' H
def tgNil : TgL := fun ds env => match ds with
  | [] => .ret env
  | _ => .fail
def tgCons (a : D → Env → T Env) (r : TgL) : TgL := fun ds env => match ds with
  | d :: ds => (a d env).bind fun e => r ds e
  | [] => .fail
/-- n parts -/
def tgT (n : Nat) (ts : TgL) : D → Env → T Env := fun d env => match d with
  | .tup xs => if xs.length = n then ts (xs.map (deg .frz)) env else .fail
  | _ => .fail
section
variable {K : PySem.W.Frag} {G : Gh} {X : Cx}
theorem rdGs_nil {vs : List V} {σ : L2.St} {H : Hp} {Q : L2.St → Hp → Prop} (h : RdGs K G [] tgNil vs σ H Q) : gNil vs σ H Q := by
  obtain ⟨Z, env, ds, S, r, h⟩ := h
  cases ds with
  | nil => exact ⟨r.nil_inv.1, h σ S ⟨rfl, fun _ _ => rfl⟩⟩
  | cons _ _ => exact h.elim
theorem rdGs_cons {sl sl' : List Nat} {a : D → Env → T Env} {b : TgL} {vs : List V} {σ : L2.St} {H : Hp} {Q : L2.St → Hp → Prop} (h : RdGs K G (sl ++ sl') (tgCons a b) vs σ H Q) : gCons (RdG K G sl a) (RdGs K G sl' b) vs σ H Q := by
  obtain ⟨Z, env, ds, S, r, h⟩ := h
  cases ds with
  | nil => exact h.elim
  | cons d ds =>
    cases vs with
    | nil => have := r.len; simp at this
    | cons v vs =>
      obtain ⟨F1, F2, e, r1, r2⟩ := r.uncons
      obtain ⟨rfl, rfl⟩ := List.append_eq_nil_iff.mp e.symm
      refine ⟨v, vs, rfl, Z, env, d, S, r1, (T.holds_bind h).mono fun env1 h σ1 S1 k1 => ⟨Z, env1, ds, S1, r2, h.mono fun env2 h σ2 S2 k2 => h σ2 S2 ⟨k2.1.trans k1.1, fun i hi => ?_⟩⟩⟩
      rw [k2.2 i fun z => hi (List.mem_append_right _ z), k1.2 i fun z => hi (List.mem_append_left _ z)]
theorem rdG_t {sl : List Nat} {n : Nat} {b : TgL} {v : V} {σ : L2.St} {H : Hp} {Q : L2.St → Hp → Prop} (h : RdG K G sl (tgT n b) v σ H Q) : gTup K n (RdGs K G sl b) v σ H Q := by
  obtain ⟨Z, env, d, S, r, h⟩ := h
  cases d with
  | tup xs =>
    obtain ⟨c, h⟩ := ite_holds h
    cases r with
    | sc e _ => simp [scV] at e
    | tup e h1 hn =>
      refine ⟨_, _, rfl, e.sq, by rw [← h1.len]; exact c, Z, env, _, S, h1.outs (by decide), h⟩
  | _ => exact h.elim
theorem PGs.imp {es : List Expr} {t t' : TGs} (h : PGs X es t) (i : ∀ vs σ H Q, t' vs σ H Q → t vs σ H Q) : PGs X es t' := ⟨fun pins s σ H vs us Q I r q => h.run pins s σ H vs us Q I r (i vs σ H Q q)⟩
theorem tg_nil : PGs X [] (RdGs X.K G [] tgNil) := PGs.imp pgs_nil fun _ _ _ _ h => rdGs_nil h
theorem tg_cons {sl sl' : List Nat} {e : Expr} {es : List Expr} {a : D → Env → T Env} {b : TgL} (h1 : PG X e (RdG X.K G sl a)) (h2 : PGs X es (RdGs X.K G sl' b)) (hs : (assignEach (e :: es) X.env).map (·.2) = assign e X.env :: (assignEach es X.env).map (·.2) := by rfl) :
    PGs X (e :: es) (RdGs X.K G (sl ++ sl') (tgCons a b)) := PGs.imp (pgs_cons h1 h2 hs) fun _ _ _ _ h => rdGs_cons h
theorem tg_t {sl : List Nat} {es : List Expr} {k n : Nat} {pos : Pos} {b : TgL} (hc : X.calm = true) (h : PGs X es (RdGs X.K G sl b)) (hn : (assignEach es X.env).length = n := by rfl) (hst : (assignEach es X.env).findIdx? (·.1) = none := by rfl) :
    PG X (.Tuple es k pos) (RdG X.K G sl (tgT n b)) := PG.imp (pg_tup hc h hn hst) fun _ _ _ _ h => rdG_t h
/-- target = e, what e gives not owned -/
def asgS (e : Env → T D) (t : D → Env → T Env) : SD := fun env => (e env).bind fun d => (t (deg .frz d) env).bind fun env' => .ret (.nx env')
end

/-! ## comprehensions -/
def wipeE (env : Env) : List Nat → Env
  | [] => env
  | v :: vs => (wipeE env vs).set v none
theorem wipe_at {α : Type} (f : List (Option α) → List Nat → List (Option α)) (h0 : ∀ e, f e [] = e) (h1 : ∀ e v vs, f e (v :: vs) = (f e vs).set v none) (e : List (Option α)) : ∀ (vs : List Nat) (i : Nat), (f e vs)[i]? = if i ∈ vs ∧ i < e.length then some none else e[i]?
  | [], i => by rw [h0]; simp
  | v :: vs, i => by
    have ih := wipe_at f h0 h1 e vs i
    have il : (f e vs).length = e.length := by
      have : ∀ ws : List Nat, (f e ws).length = e.length := by
        intro ws
        induction ws with
        | nil => rw [h0]
        | cons w ws ih => rw [h1, List.length_set, ih]
      exact this vs
    rw [h1]
    by_cases hv : v = i
    · subst hv
      by_cases hl : v < e.length
      · rw [List.getElem?_set_self (by rw [il]; exact hl)]
        simp [hl]
      · rw [List.getElem?_eq_none_iff.mpr (by rw [List.length_set, il]; omega)]
        simp [hl]
    · rw [List.getElem?_set_ne hv, ih]
      simp [Ne.symm hv]
theorem wipeE_at (e : Env) (vs : List Nat) (i : Nat) : (wipeE e vs)[i]? = if i ∈ vs ∧ i < e.length then some none else e[i]? := wipe_at wipeE (fun _ => rfl) (fun _ _ _ => rfl) e vs i
theorem wipeV_at (e : L2.St) (vs : List Nat) (i : Nat) : (wipe e vs)[i]? = if i ∈ vs ∧ i < e.length then some none else e[i]? := wipe_at wipe (fun _ => rfl) (fun _ _ _ => rfl) e vs i
theorem wipe_same {σ τ : L2.St} {vs : List Nat} (hl : σ.length = τ.length) (h : ∀ i, i ∉ vs → σ[i]? = τ[i]?) : wipe σ vs = wipe τ vs := by
  apply List.ext_getElem?
  intro i
  rw [wipeV_at, wipeV_at, hl]
  by_cases c : i ∈ vs ∧ i < τ.length
  · rw [if_pos c, if_pos c]
  · rw [if_neg c, if_neg c]
    by_cases hi : i ∈ vs
    · have hn : ¬ i < τ.length := fun z => c ⟨hi, z⟩
      rw [List.getElem?_eq_none_iff.mpr (show σ.length ≤ i by omega), List.getElem?_eq_none_iff.mpr (show τ.length ≤ i by omega)]
    · exact h i hi
def compL (tg : D → Env → T Env) (cond : Env → T Bool) (elt : Env → T D) (env : Env) : List D → T (List D)
  | [] => .ret []
  | d :: ds => (tg d env).bind fun e1 => (cond e1).bind fun b => if b then (elt e1).bind fun y => if topBor y then .fail else (compL tg cond elt env ds).bind fun ys => .ret (y :: ys) else compL tg cond elt env ds
def compE (src : Env → T (List D)) (tg : D → Env → T Env) (cond : Env → T Bool) (elt : Env → T D) (vs : List Nat) : Env → T D := fun env => (src env).bind fun es => if es.length ≤ 1000000 then (compL tg cond elt (wipeE env vs) es).bind fun ys => .ret (.lst .own ys) else .fail
def yesT : Env → T Bool := fun _ => .ret true
section
variable {K : PySem.W.Frag} {G : Gh} {X : Cx}
theorem StRel.wiped {Z : Addr → Prop} {env : Env} {σ : L2.St} {H : Hp} (S : StRel K G Z env σ H) (vs : List Nat) : StRel K G Z (wipeE env vs) (wipe σ vs) H := by
  obtain ⟨Fs, S⟩ := S
  have hl : ∀ ws : List Nat, (wipeE env ws).length = env.length := by
    intro ws
    induction ws with
    | nil => rfl
    | cons w ws ih => show ((wipeE env ws).set w none).length = _; rw [List.length_set, ih]
  refine ⟨Fs, ⟨by rw [wipe_length, hl, S.len], fun i d e => ?_, S.nd, S.one, S.new, S.zf, S.grow, S.pot, S.pot0, S.z0, S.zn⟩⟩
  rw [wipeE_at] at e
  by_cases c : i ∈ vs ∧ i < env.length
  · rw [if_pos c] at e; cases e
  · rw [if_neg c] at e
    obtain ⟨v, a, b⟩ := S.at_ i d e
    exact ⟨v, by rw [wipeV_at, S.len, if_neg c]; exact a, b⟩
theorem rdT_yes {σ : L2.St} {H : Hp} {Q : Bool → Hp → Prop} (h : RdT K G yesT σ H Q) : tYes σ H Q := by
  obtain ⟨Z, env, S, h⟩ := h
  exact h Z H S.goR
theorem rd_comp {sl vs : List Nat} {src : Env → T (List D)} {tg : D → Env → T Env} {cond : Env → T Bool} {elt : Env → T D} {σ : L2.St} {H : Hp} {Q : VK} (hsl : ∀ i ∈ sl, i ∈ vs) (h : RdE K G (compE src tg cond elt vs) σ H Q) :
    tLc (RdC K G src) (RdG K G sl tg) (RdT K G cond) (RdE K G elt) vs σ H Q := by
  obtain ⟨Z, env, S, h⟩ := h
  refine ⟨Z, env, S, (T.holds_bind h).mono fun es h Z1 H1 J w D0 nD => ?_⟩
  obtain ⟨c, h⟩ := ite_holds h
  have S1 := S.go w.go
  have W1 := S1.wiped vs
  have pD : some D0 ≠ G.pot := ne_pot w.go.potB nD
  -- what is known ahead of the list, whatever is in the list
  have base : ∀ {Z2 : Addr → Prop} {H2 : Hp} {o : HO}, Go G Z1 H1 Z2 H2 → ¬ Z2 D0 → H2 D0 ≠ none → Go G Z1 H1 Z2 (upd H2 D0 o) := fun {Z2 H2 o} g nz k => by
    refine ⟨⟨fun p u n e => ?_⟩, g.potA, fun p e => ?_, g.zle, g.znew, g.zA, fun p z => ?_⟩
    · rw [upd_ne (ne_of_none e nD)]
      exact g.grow.keep p u n e
    · rw [upd_ne (fun q => by subst q; exact pD e.symm)]
      exact g.potB p e
    · rw [upd_ne (fun q => nz (by rw [← q]; exact z))]
      exact g.zB p z
  have gD : Go G Z1 H1 Z1 (upd H1 D0 (.lst [])) := Go.new w.go.potB w.go.zB nD
  refine lc_it w.walk (fun i H2 => ∃ Z2 acc ws F, Go G Z1 H1 Z2 H2 ∧ ¬ Z2 D0 ∧ H2 D0 = some (.lst ws) ∧ acc.length ≤ i ∧ RepL K (G.zs Z2) H2 .own acc ws F ∧ New G H1 Z2 F ∧ D0 ∉ F ∧
    (compL tg cond elt (wipeE env vs) (es.drop i)).Holds fun ys => ∀ Z' v H' F, ExOut K G Z H (.lst .own (acc ++ ys)) Z' v H' F → Q v H') ?_ ?_ ?_ ?_
  · refine ⟨Z1, [], [], [], gD, fun z => (w.go.zB _ z).1 nD, upd_same, Nat.zero_le _, .nil, .nil, by simp, ?_⟩
    exact (T.holds_bind h).mono fun ys h => h
  · rintro i H2 _ ⟨Z2, _, _, _, g, _⟩
    exact ⟨Z2, g⟩
  · rintro i x H2 H3 hi ⟨Z2, acc, ws, F, g, nz, eD, hal, rA, nF, dF, hc⟩ y
    obtain ⟨gy, d, ed, r⟩ := y Z2 g
    have ed' : es.drop i = d :: es.drop (i + 1) := by
      rw [List.drop_eq_getElem_cons hi]
      congr 1
      rw [List.getElem?_eq_getElem hi] at ed
      exact Option.some.inj ed
    rw [ed'] at hc
    have g3 := g.trans gy
    have r3 : RepL K (G.zs Z2) H3 .own [d] [x] [] := r.carry g.zle (fun _ z => z) (fun _ _ z => z) (fun _ z => z) (fun _ _ _ e => e) fun _ _ e => e
    have eD3 : H3 D0 = some (.lst ws) := gy.grow.keep _ _ pD eD
    have rA3 := gy.repS rA fun p hp => (nF.new p hp).2.2
    refine ⟨Z2, wipeE env vs, d, W1.go g3, r3, (T.holds_bind hc).mono fun e1 hc σ1 S4 k4 => ⟨?_, Z2, e1, S4, (T.holds_bind hc).mono fun b hc Z4 H4 g4 => ?_⟩⟩
    · refine wipe_same (k4.1.trans (wipe_length _ _)) fun j hj => ?_
      rw [k4.2 j fun z => hj (hsl j z), wipeV_at, if_neg fun z => hj z.1]
    · have nz4 : ¬ Z4 D0 := fun z => (g4.znew _ z).elim nz fun n => by rw [eD3] at n; cases n
      have g14 := g3.trans g4
      have eD4 := g4.grow.keep _ _ pD eD3
      have rA4 := g4.repS rA3 fun p hp => (nF.new p hp).2.2
      have kF : ∀ p ∈ F, H3 p ≠ none := fun p hp => by
        obtain ⟨o, e⟩ := rA3.fp p hp
        rw [e]; simp
      have nF4 := nF.go g4 kF
      cases b with
      | false => exact ⟨Z4, acc, ws, F, g14, nz4, eD4, by omega, rA4, nF4, dF, hc⟩
      | true =>
        show (if true = true then _ else _)
        rw [if_pos rfl]
        refine ⟨Z4, e1, S4.go g4, (T.holds_bind hc).mono fun y hc Z5 v5 H5 F5 o => ?_⟩
        cases hb : topBor y with
        | true => rw [hb] at hc; exact hc.elim
        | false =>
          rw [hb] at hc
          have eD5 := o.go.grow.keep _ _ pD eD4
          have rA5 := o.go.repS rA4 fun p hp => (nF4.new p hp).2.2
          have kF4 : ∀ p ∈ F, H4 p ≠ none := fun p hp => by
            obtain ⟨u, e⟩ := rA4.fp p hp
            rw [e]; simp
          have nF5 := nF4.go o.go kF4
          have nz5 : ¬ Z5 D0 := fun z => (o.go.znew _ z).elim nz4 fun n => by rw [eD4] at n; cases n
          have dF5 : D0 ∉ F5 := fun z => by rw [(o.new.new _ z).1] at eD4; cases eD4
          rcases o.tmp with ⟨z, _⟩ | ⟨_, r5⟩
          · rw [hb] at z; cases z
          · have rN := RepL.append rA5 r5
            have dN : D0 ∉ F ++ F5 := fun z => (List.mem_append.mp z).elim dF dF5
            have lw := rA5.len
            refine ⟨ws, eD5, size_lt (by omega), Z5, acc ++ [y], ws ++ [v5], F ++ F5, base (g14.trans o.go) nz5 (by rw [eD5]; simp), nz5, upd_same, by rw [List.length_append, List.length_singleton]; omega, ?_, ?_, dN, ?_⟩
            · refine rN.carry (fun _ z => z) (fun _ z => z) (fun _ _ z => z) (fun _ z => z) (fun p u l e => ?_) fun p zs h => ?_
              · rw [upd_ne]
                · exact e
                · rintro rfl
                  rcases l with l | l | l | l
                  · exact dN l
                  · exact nz5 l
                  · obtain ⟨_, S1⟩ := S1
                    exact l.1 (S1.grow.back l.2 nD)
                  · exact l.2
              · rcases h with ⟨q, hq, h⟩ | h
                · exact .inl ⟨q, hq, by rw [upd_ne (fun z => by subst z; rw [eD5] at h; cases h)]; exact h⟩
                · exact .inr h
            · exact nF5.app (o.new) g14.grow kF4
            · exact (T.holds_bind hc).mono fun ys hc => by
                have hc : ∀ Z' v H' F, ExOut K G Z H (.lst .own (acc ++ y :: ys)) Z' v H' F → Q v H' := hc
                rw [show acc ++ [y] ++ ys = acc ++ y :: ys by simp]
                exact hc
  · rintro H2 ⟨Z2, acc, ws, F, g, nz, eD, _, rA, nF, dF, hc⟩
    rw [List.drop_length] at hc
    have hc : ∀ Z' v H' F, ExOut K G Z H (.lst .own (acc ++ [])) Z' v H' F → Q v H' := hc
    rw [List.append_nil] at hc
    refine hc Z2 (.ref D0) H2 (D0 :: (F ++ [])) ⟨w.go.trans g, .inr ⟨rfl, .own rfl eD rA .nil⟩, ?_⟩
    have n2 := nF.back w.go.grow
    refine ⟨fun p hp => ?_, ?_⟩
    · rcases List.mem_cons.mp hp with rfl | hp
      · exact ⟨w.go.grow.back pD nD, nz, pD⟩
      · rw [List.append_nil] at hp
        exact n2.new p hp
    · rw [List.append_nil]
      exact List.nodup_cons.mpr ⟨dF, nF.nd⟩
end
end Dn

set_option Elab.async false
set_option linter.all false
set_option maxRecDepth 100000
namespace Dn
open PySem PySem.Spec PyProof.Rows L2
section
variable {X : Cx} {G : Gh}
theorem PTs.imp {ifs : List Expr} {t t' : TT} (h : PTs X ifs t) (i : ∀ σ H Q, t' σ H Q → t σ H Q) : PTs X ifs t' := ⟨fun pins s σ H Q I q => h.run pins s σ H Q I (i σ H Q q)⟩
theorem ts_nil : PTs X [] (RdT X.K G yesT) := PTs.imp pts_nil fun _ _ _ h => rdT_yes h
theorem ts_one {c : Expr} {dc : Env → T Bool} (h : PT X c (RdT X.K G dc)) : PTs X [c] (RdT X.K G dc) := pts_one h
theorem ee_comp {sl : List Nat} (own : List (Str × Nat)) {elt tg iter : Expr} {ifs : List Expr} {scope : Scope} {pos : Pos} {src : Env → T (List D)} {dt : D → Env → T Env} {dc : Env → T Bool} {de : Env → T D} (hc : X.calm = true) (hN : X.N.Nodup) (hi : PI X tg iter (RdC X.K G src)) (ok : BlkOk X.N X.env.scope scope own)
    (hg : ∀ (s : Shared) (H : Hp) (C : Addr) (cl : List (Str × Addr)) (fp : List Addr), PG (X.blk s H scope (compEnvC scope cl C X.env) fp) tg (RdG X.K G sl dt)) (ht : ∀ (s : Shared) (H : Hp) (C : Addr) (cl : List (Str × Addr)) (fp : List Addr), PTs (X.blk s H scope (compEnvC scope cl C X.env) fp) ifs (RdT X.K G dc))
    (he : ∀ (s : Shared) (H : Hp) (C : Addr) (cl : List (Str × Addr)) (fp : List Addr), PE (X.blk s H scope (compEnvC scope cl C X.env) fp) elt (RdE X.K G de)) (hsl : ∀ i ∈ sl, i ∈ own.map (·.2) := by decide) (hs : ∀ x, foldedSetIterable iter X.env x = pure x := by intro _; rfl) :
    PE X (.ListComp elt [⟨tg, iter, ifs, 0⟩] scope pos) (RdE X.K G (compE src dt dc de (own.map (·.2)))) := PE.imp (pe_lc hc hN hi ok hg ht he hs) fun _ _ _ h => rd_comp hsl h
theorem st_setC {sl : List Nat} (own : List (Str × Nat)) {y : Str} {py : Pos} (i : Nat) {elt tg iter : Expr} {ifs : List Expr} {scope : Scope} {pos spos : Pos} {src : Env → T (List D)} {dt : D → Env → T Env} {dc : Env → T Bool} {de : Env → T D} (hc : X.calm = true) (hN : X.N.Nodup)
    (hsw : swapsWith (.ListComp elt [⟨tg, iter, ifs, 0⟩] scope pos) (some (.Name y py)) spos.line X.env = pure true) (hi : PI X tg iter (RdC X.K G src)) (ok : BlkOk X.N X.env.scope scope own)
    (hg : ∀ (s : Shared) (H : Hp) (C : Addr) (cl : List (Str × Addr)) (fp : List Addr), PG (X.blk s H scope (compEnvC scope cl C X.env) fp) tg (RdG X.K G sl dt)) (ht : ∀ (s : Shared) (H : Hp) (C : Addr) (cl : List (Str × Addr)) (fp : List Addr), PTs (X.blk s H scope (compEnvC scope cl C X.env) fp) ifs (RdT X.K G dc))
    (he : ∀ (s : Shared) (H : Hp) (C : Addr) (cl : List (Str × Addr)) (fp : List Addr), PE (X.blk s H scope (compEnvC scope cl C X.env) fp) elt (RdE X.K G de)) (hsl : ∀ i ∈ sl, i ∈ own.map (·.2) := by decide) (hy : X.N[i]? = some y := by rfl) (hyl : X.env.scope.names.lookup y = some .local := by rfl) (hs : ∀ x, foldedSetIterable iter X.env x = pure x := by intro _; rfl) :
    PS X (.Assign [.Name y py] (.ListComp elt [⟨tg, iter, ifs, 0⟩] scope pos) spos) (RdS X.K G (setS i (compE src dt dc de (own.map (·.2))))) :=
  PS.imp (ps_setLc hc hN hy hyl hsw hi ok hg ht he hs) fun D σ H h => rd_comp hsl (by
    obtain ⟨Z, env, S, h⟩ := h
    refine ⟨Z, env, S, (T.holds_bind h).mono fun d h Z' v H' F o => ?_⟩
    cases hb : topBor d with
    | true => rw [hb] at h; exact h.elim
    | false =>
      rw [hb] at h
      exact h Z' _ H' (S.put o hb) o.go.keep)
end

/-! ## two, three names at once -/
section
variable {K : PySem.W.Frag} {G : Gh} {X : Cx}
def putAll (env : Env) : List Nat → List D → Option Env
  | [], [] => some env
  | i :: is, d :: ds => if topBor d then none else putAll (env.set i (some d)) is ds
  | _, _ => none
def parS (is : List Nat) (ea : Env → T (List D)) : SD := fun env => (ea env).bind fun ds => (T.ofO (putAll env is ds)).bind fun e => .ret (.nx e)
theorem put_two {Z : Addr → Prop} {env' : Env} {H : Hp} : ∀ {is : List Nat} {ds : List D} {vs : List V} {F : List Addr} {env : Env} {σ : L2.St} {Fs : Nat → List Addr}, StF K G Z env σ H Fs → TmpL K G Z H ds vs F → F.Nodup → (∀ p ∈ F, G.H0 p = none ∧ ¬ Z p ∧ some p ≠ G.pot) → (∀ j p, p ∈ F → p ∉ Fs j) →
    putAll env is ds = some env' → StRel K G Z env' ((is.zip vs).foldl (fun s q => s.set q.1 (some q.2)) σ) H := by
  intro is
  induction is with
  | nil =>
    intro ds vs F env σ Fs S t nd n dj e
    cases t with
    | nil => cases e; exact ⟨Fs, S⟩
    | cons _ _ => cases e
  | cons i is ih =>
    intro ds vs F env σ Fs S t nd n dj e
    cases t with
    | nil => cases e
    | @cons d ds v vs F1 F2 t1 t2 =>
      unfold putAll at e
      cases hb : topBor d with
      | true => rw [hb] at e; cases e
      | false =>
        rw [hb] at e
        rcases t1 with ⟨z, _⟩ | ⟨_, r⟩
        · rw [hb] at z; cases z
        · obtain ⟨n1, n2, n3⟩ := List.nodup_append.mp nd
          refine ih (S.put r n1 (fun p hp => n p (List.mem_append_left _ hp)) fun j p _ hp => dj j p (List.mem_append_left _ hp)) t2 n2 (fun p hp => n p (List.mem_append_right _ hp)) (fun j p hp hj => ?_) e
          by_cases ej : j = i
          · simp only [ej, if_true] at hj
            exact n3 p hj p hp rfl
          · simp only [ej, if_false] at hj
            exact dj j p (List.mem_append_right _ hp) hj
theorem rdS_par {is : List Nat} {ea : Env → T (List D)} {dn : Ends} {σ : L2.St} {H : Hp} (h : RdS K G (parS is ea) dn σ H) : RdA K G ea σ H fun vs H1 => vs.length = is.length ∧ dn.nx ((is.zip vs).foldl (fun s q => s.set q.1 (some q.2)) σ) H1 := by
  obtain ⟨Z, env, S, h⟩ := h
  refine ⟨Z, env, S, (T.holds_bind h).mono fun ds h Z' vs H' F o => ?_⟩
  obtain ⟨env', e, h⟩ := mat_o h
  obtain ⟨Fs, S⟩ := S
  have S1 := S.go o.go
  have hl : ∀ (is : List Nat) (ds : List D) (env : Env), putAll env is ds = some env' → ds.length = is.length := by
    intro is
    induction is with
    | nil => intro ds env e; cases ds <;> first | rfl | cases e
    | cons i is ih =>
      intro ds env e
      cases ds with
      | nil => cases e
      | cons d ds =>
        unfold putAll at e
        split at e
        · cases e
        · simp [ih ds _ e]
  refine ⟨by rw [← o.tmp.len]; exact hl is ds env e, h Z' _ H' (put_two S1 o.tmp o.new.nd (fun p hp => ⟨S.grow.back (o.new.new p hp).2.2 (o.new.new p hp).1, (o.new.new p hp).2⟩) (fun j p hp hj => (S.new j p hj).2.2.2 (o.new.new p hp).1) e) o.go.keep⟩
theorem st_par2 {x y : Str} {a b : Expr} {px py pt pos : Pos} {kt k2 pt2} {ea : Env → T (List D)} (i j : Nat) (hc : X.calm = true) (hN : X.N.Nodup) (ha : PA X [a, b] (RdA X.K G ea))
    (hw : swappedStores [.Tuple [.Name x px, .Name y py] kt pt] (.Tuple [a, b] k2 pt2) X.env = pure (some [x, y]))
    (hi : X.N[i]? = some x := by rfl) (hj : X.N[j]? = some y := by rfl) (hij : i ≠ j := by decide) (hx : X.env.scope.names.lookup x = some .local := by rfl) (hy : X.env.scope.names.lookup y = some .local := by rfl)
    (hs : swapsWithSole [.Tuple [.Name x px, .Name y py] kt pt] (.Tuple [a, b] k2 pt2) pos.line X.env = pure false := by rfl) : PS X (.Assign [.Tuple [.Name x px, .Name y py] kt pt] (.Tuple [a, b] k2 pt2) pos) (RdS X.K G (parS [i, j] ea)) :=
  PS.imp (ps_par hc hN hi hj hij hx hy ha hw hs) fun D σ H h => by
    obtain ⟨Z, env, S, h⟩ := rdS_par h
    refine ⟨Z, env, S, h.mono fun ds h Z' vs H' F o => ?_⟩
    obtain ⟨hl, h⟩ := h Z' vs H' F o
    match vs, hl with
    | [v, w], _ => exact ⟨v, w, rfl, h⟩
theorem st_par3 {x y z : Str} {a b c : Expr} {px py pz pt pos : Pos} {kt k2 pt2} {ea : Env → T (List D)} (i j l : Nat) (hc : X.calm = true) (hN : X.N.Nodup) (ha : PA X [a, b, c] (RdA X.K G ea))
    (hw : swappedStores [.Tuple [.Name x px, .Name y py, .Name z pz] kt pt] (.Tuple [a, b, c] k2 pt2) X.env = pure (some [x, y, z]))
    (hi : X.N[i]? = some x := by rfl) (hj : X.N[j]? = some y := by rfl) (hl : X.N[l]? = some z := by rfl) (hij : i ≠ j := by decide) (hil : i ≠ l := by decide) (hjl : j ≠ l := by decide) (hx : X.env.scope.names.lookup x = some .local := by rfl) (hy : X.env.scope.names.lookup y = some .local := by rfl) (hz : X.env.scope.names.lookup z = some .local := by rfl)
    (hs : swapsWithSole [.Tuple [.Name x px, .Name y py, .Name z pz] kt pt] (.Tuple [a, b, c] k2 pt2) pos.line X.env = pure false := by rfl) : PS X (.Assign [.Tuple [.Name x px, .Name y py, .Name z pz] kt pt] (.Tuple [a, b, c] k2 pt2) pos) (RdS X.K G (parS [i, j, l] ea)) :=
  PS.imp (ps_par3 hc hN hi hj hl hij hil hjl hx hy hz ha hw hs) fun D σ H h => by
    obtain ⟨Z, env, S, h⟩ := rdS_par h
    refine ⟨Z, env, S, h.mono fun ds h Z' vs H' F o => ?_⟩
    obtain ⟨hl, h⟩ := h Z' vs H' F o
    match vs, hl with
    | [u, v, w], _ => exact ⟨u, v, w, rfl, h⟩
/-! ## a slot's list frozen (nothing is done) -/
def frzS (i : Nat) : SD := fun env => match env[i]? with
  | some (some (.lst .own xs)) => .ret (.nx (env.set i (some (.lst .frz xs))))
  | _ => .ret (.nx env)
theorem StF.frz {Z : Addr → Prop} {env : Env} {σ : L2.St} {H : Hp} {Fs : Nat → List Addr} (S : StF K G Z env σ H Fs) {i : Nat} {xs : List D} (e : env[i]? = some (some (.lst .own xs))) : ∃ Z', StRel K G Z' (env.set i (some (.lst .frz xs))) σ H ∧ Keep K G Z H Z' H := by
  obtain ⟨v, ev, r⟩ := S.at_ i _ e
  have hi : i < env.length := (List.getElem?_eq_some_iff.mp e).1
  have zle : ∀ p, Z p → Z p ∨ p ∈ Fs i := fun _ z => .inl z
  have up : ∀ {m ds vs F}, RepL K (G.zs Z) H m ds vs F → RepL K (G.zs fun p => Z p ∨ p ∈ Fs i) H m ds vs F := fun h => h.carry zle (fun _ z => z) (fun _ _ z => z) (fun _ z => z) (fun _ _ _ e => e) fun _ _ e => e
  refine ⟨fun p => Z p ∨ p ∈ Fs i, ⟨fun j => if j = i then [] else Fs j, by simp [S.len], fun j d ej => ?_, fun j => by by_cases h : j = i <;> simp [h, S.nd], fun j k p a b => ?_, fun j p a => ?_, fun p z => ?_, S.grow, S.pot, S.pot0, fun p z => ⟨.inl (S.z0 p z).1, (S.z0 p z).2⟩, fun p z => z.elim (S.zn p) fun m => .inr (S.new i p m).1⟩, zle, fun _ _ _ h => h, fun _ _ h => h⟩
  · by_cases hj : j = i
    · subst hj
      rw [List.getElem?_set_self hi] at ej
      cases ej
      refine ⟨v, ev, ?_⟩
      simp only [if_true]
      have r2 := r.freeze
      cases r2 with
      | sc e _ => simp [scV] at e
      | shr e0 e1 e2 h1 h => 
        simp [eff] at e0
        subst e0
        cases h
        exact .shr rfl e1 e2 h1 .nil
    · rw [List.getElem?_set_ne (Ne.symm hj)] at ej
      obtain ⟨w, a, b⟩ := S.at_ j d ej
      exact ⟨w, a, by simp only [hj, if_false]; exact up b⟩
  · by_cases hj : j = i
    · simp [hj] at a
    · by_cases hk : k = i
      · simp [hk] at b
      · simp only [hj, if_false] at a
        simp only [hk, if_false] at b
        exact S.one j k p a b
  · by_cases hj : j = i
    · simp [hj] at a
    · simp only [hj, if_false] at a
      have := S.new j p a
      exact ⟨this.1, fun z => z.elim this.2.1 fun m => hj (S.one j i p a m), this.2.2⟩
  · exact z.elim (S.zf p) fun m => ⟨(S.new i p m).2.2.2, (S.new i p m).2.2.1⟩
theorem rdS_frz {i : Nat} {s : SD} {dn : Ends} {σ : L2.St} {H : Hp} (h : RdS K G (seqS (frzS i) s) dn σ H) : RdS K G s dn σ H := by
  obtain ⟨Z, env, S, h⟩ := h
  have h := T.holds_bind h
  by_cases e : ∃ xs, env[i]? = some (some (.lst .own xs))
  · obtain ⟨xs, e⟩ := e
    have ef : frzS i env = .ret (.nx (env.set i (some (.lst .frz xs)))) := by unfold frzS; rw [e]
    rw [ef] at h
    obtain ⟨Fs, S⟩ := S
    obtain ⟨Z', S', k⟩ := S.frz e
    exact ⟨Z', _, S', T.Holds.mono h fun o h => h.from k⟩
  · have ef : frzS i env = .ret (.nx env) := by
      unfold frzS
      split
      · rename_i xs h1
        exact absurd ⟨xs, h1⟩ e
      · rfl
    rw [ef] at h
    exact ⟨Z, env, S, h⟩
theorem st_frz {st : Stmt} {s : SD} (i : Nat) (h : PS X st (RdS X.K G s)) : PS X st (RdS X.K G (seqS (frzS i) s)) := PS.imp h fun _ _ _ q => rdS_frz q
end
end Dn

set_option Elab.async false
set_option linter.all false
set_option maxRecDepth 100000
namespace Dn
open PySem PySem.Spec PyProof.Rows L2

/-! ## a slot's own list changed -/
def ownAt (env : Env) (i : Nat) : Option (List D) := match env[i]? with
  | some (some (.lst .own xs)) => some xs
  | _ => none
theorem ownAt_some {env : Env} {i : Nat} {xs : List D} (h : ownAt env i = some xs) : env[i]? = some (some (.lst .own xs)) := by
  unfold ownAt at h
  split at h
  · rename_i ys e
    cases h
    exact e
  · cases h
/-- expressions that change a list and give something that is not owned -/
structure XOut (K : PySem.W.Frag) (G : Gh) (Z : Addr → Prop) (H : Hp) (σ : L2.St) (d : D) (env' : Env) (Z' : Addr → Prop) (v : V) (H' : Hp) : Prop where
  st : StRel K G Z' env' σ H'
  keep : Keep K G Z H Z' H'
  nb : topBor d = false
  rep : RepL K (G.zs Z') H' .own [d] [v] []
def RdX (K : PySem.W.Frag) (G : Gh) (e : Env → T (D × Env)) : TE := fun σ H Q => ∃ Z env, StRel K G Z env σ H ∧ (e env).Holds fun r => ∀ Z' v H', XOut K G Z H σ r.1 r.2 Z' v H' → Q v H'
section
variable {K : PySem.W.Frag} {G : Gh} {X : Cx}
theorem tVar_of {Z : Addr → Prop} {env : Env} {σ : L2.St} {H : Hp} {i : Nat} {xs : List D} {Q : VK} (S : StRel K G Z env σ H) (e : env[i]? = some (some (.lst .own xs))) (h : ∀ p ws, σ[i]? = some (some (.ref p)) → H p = some (.lst ws) → Q (.ref p) H) : tVar i σ H Q := by
  obtain ⟨Fs, S⟩ := S
  obtain ⟨p, ws, F', ev, hp, _⟩ := S.mut e
  exact ⟨.ref p, ev, h p ws ev hp⟩
/-- the list at slot i, read through what comes behind it -/
theorem mut_of {Z Z1 : Addr → Prop} {env : Env} {σ : L2.St} {H H1 : Hp} {i : Nat} {xs : List D} (S : StRel K G Z env σ H) (e : env[i]? = some (some (.lst .own xs))) (g : Go G Z H Z1 H1) :
    ∃ p ws F', σ[i]? = some (some (.ref p)) ∧ H1 p = some (.lst ws) ∧ RepL K (G.zs Z1) H1 .own xs ws F' ∧ F'.Nodup ∧ (∀ q ∈ F', H q ≠ none) ∧ (∀ us m ds vs, RepL K (G.zs Z1) H1 m ds vs [] → RepL K (G.zs Z1) (upd H1 p (.lst us)) m ds vs []) ∧
      ∀ ys us F'', RepL K (G.zs Z1) H1 .own ys us F'' → (∀ q ∈ F'', q ∈ F' ∨ (H q = none ∧ ¬ Z1 q ∧ some q ≠ G.pot)) → F''.Nodup →
        StRel K G Z1 (env.set i (some (.lst .own ys))) σ (upd H1 p (.lst us)) ∧ Keep K G Z H Z1 (upd H1 p (.lst us)) := by
  obtain ⟨Fs, S⟩ := S
  obtain ⟨p, ws, F', ev, hp, r, eF, h⟩ := S.mut e
  have hF : ∀ q ∈ p :: F', some q ≠ G.pot := fun q hq => (S.new i q (by rw [eF, List.append_nil]; exact hq)).2.2.1
  refine ⟨p, ws, F', ev, g.grow.keep p _ (hF p List.mem_cons_self) hp, g.repS r fun q hq => hF q (List.mem_cons_of_mem _ hq), ?_, fun q hq => let ⟨u, eu⟩ := r.fp q hq; (by rw [eu]; simp), fun us m ds vs hr => ?_, fun ys us F'' r2 hq nd => ?_⟩
  · have := S.nd i
    rw [eF, List.append_nil] at this
    exact (List.nodup_cons.mp this).2
  · obtain ⟨n0, nz, np, nk⟩ := S.new i p (by rw [eF]; exact List.mem_cons_self)
    have hp1 := g.grow.keep p _ np hp
    have nz1 : ¬ Z1 p := fun z => (g.znew p z).elim nz nk
    refine hr.carry (fun _ z => z) (fun _ z => z) (fun _ _ z => z) (fun _ z => z) (fun q u l e => ?_) fun q zs ht => ?_
    · rw [upd_ne]
      · exact e
      · rintro rfl
        rcases l with l | l | l | l
        · cases l
        · exact nz1 l
        · exact l.1 n0
        · exact l.2
    · rcases ht with ⟨u, hu, ht⟩ | ht
      · exact .inl ⟨u, hu, by rw [upd_ne (fun z => by subst z; rw [hp1] at ht; cases ht)]; exact ht⟩
      · exact .inr ht
  · obtain ⟨a, b⟩ := h Z1 H1 ys us F'' g r2 hq nd
    exact ⟨⟨_, a⟩, b⟩
/-- x.append(e) -/
def appendS (i : Nat) (e : Env → T D) : SD := fun env => (T.ofO (ownAt env i)).bind fun xs => (e env).bind fun d => if topBor d = false ∧ xs.length ≤ 1000000 then .ret (.nx (env.set i (some (.lst .own (xs ++ [d]))))) else .fail
theorem rdS_append {i : Nat} {e : Env → T D} {dn : Ends} {σ : L2.St} {H : Hp} (h : RdS K G (appendS i e) dn σ H) : tDrop (tBM K "list" rAppend (tVar i) (RdA K G (argsN e args0))) dn σ H := by
  obtain ⟨Z, env, S, h⟩ := h
  obtain ⟨xs, eo, h⟩ := mat_o h
  have ex := ownAt_some eo
  have goal : tVar i σ H fun x H1 => tyV K "list" x H1 ∧ (RdA K G (argsN e args0)) σ H1 fun vs H2 => rAppend x vs H2 fun _ H' => dn.nx σ H' := by
    refine tVar_of S ex fun p ws ev hp => ⟨.inl ⟨rfl, _, .inl (.of hp)⟩, Z, env, S, T.bind_holds ((T.holds_bind h).mono fun d h Z' vs H' F o => ?_)⟩
    obtain ⟨c, h⟩ := ite_holds h
    obtain ⟨p2, ws2, F', ev2, hp2, r, nF', kF, hk, hm⟩ := mut_of S ex o.go
    rw [ev] at ev2
    cases ev2
    cases o.tmp with
    | @cons _ _ v _ F1 _ t1 t2 =>
      cases t2
      rcases t1 with ⟨z, _⟩ | ⟨_, r1⟩
      · rw [c.1] at z; cases z
      · have nw := o.new
        rw [List.append_nil] at nw
        obtain ⟨a, b⟩ := hm (xs ++ [d]) (ws2 ++ [v]) (F' ++ F1) (RepL.append r r1) (fun q hq => (List.mem_append.mp hq).imp id fun hq => nw.new q hq) (List.nodup_append.mpr ⟨nF', nw.nd, fun q hq q' hq' e => kF q hq (by rw [e]; exact (nw.new q' hq').1)⟩)
        have l := r.len
        exact ⟨p, ws2, v, rfl, rfl, hp2, size_lt (by omega), h Z' σ _ a b⟩
  exact goal
/-- x.extend(e), e a list of flat things or one of its own -/
def extendS (i : Nat) (e : Env → T D) : SD := fun env => (T.ofO (ownAt env i)).bind fun xs => (e env).bind fun d => match d with
  | .lst f ys => if (f = .own ∨ ys.all flatD = true) ∧ xs.length + ys.length ≤ 1000000 then .ret (.nx (env.set i (some (.lst .own (xs ++ ys))))) else .fail
  | _ => .fail
theorem rdS_extend {i : Nat} {e : Env → T D} {dn : Ends} {σ : L2.St} {H : Hp} (h : RdS K G (extendS i e) dn σ H) : tDrop (tBM K "list" rExtend (tVar i) (RdA K G (argsN e args0))) dn σ H := by
  obtain ⟨Z, env, S, h⟩ := h
  obtain ⟨xs, eo, h⟩ := mat_o h
  have ex := ownAt_some eo
  have goal : tVar i σ H fun x H1 => tyV K "list" x H1 ∧ (RdA K G (argsN e args0)) σ H1 fun vs H2 => rExtend x vs H2 fun _ H' => dn.nx σ H' := by
    refine tVar_of S ex fun p ws ev hp => ⟨.inl ⟨rfl, _, .inl (.of hp)⟩, Z, env, S, T.bind_holds ((T.holds_bind h).mono fun d h Z' vs H' F o => ?_)⟩
    cases d with
    | lst f ys =>
      obtain ⟨c, h⟩ := ite_holds h
      obtain ⟨p2, ws2, F', ev2, hp2, r, nF', kF, hk, hm⟩ := mut_of S ex o.go
      rw [ev] at ev2
      cases ev2
      cases o.tmp with
      | @cons _ _ v _ F1 _ t1 t2 =>
        cases t2
        have nw := o.new
        rw [List.append_nil] at nw
        obtain ⟨b, us, F2, e1, s1, r1, g1, g2, g3⟩ := lst_val t1
        subst e1
        -- what the items own, if anything
        have : ∃ F3 : List Addr, RepL K (G.zs Z') H' .own ys us F3 ∧ F3.Sublist F1 := by
          by_cases ef : f = .own
          · subst ef
            exact ⟨F2, g3 (by decide), by rw [g2 rfl]; exact List.sublist_cons_self _ _⟩
          · exact ⟨[], r1.flat (fun _ z => z) (fun _ z => z) (fun _ z => z) (c.1.resolve_left ef), List.nil_sublist _⟩
        obtain ⟨F3, r3, sub⟩ := this
        obtain ⟨ha, hb⟩ := hm (xs ++ ys) (ws2 ++ us) (F' ++ F3) (RepL.append r r3) (fun q hq => (List.mem_append.mp hq).imp id fun hq => nw.new q (sub.subset hq)) (List.nodup_append.mpr ⟨nF', nw.nd.sublist sub, fun q hq q' hq' e => kF q hq (by rw [e]; exact (nw.new q' (sub.subset hq')).1)⟩)
        have l := r.len
        have l3 := r3.len
        exact ⟨p, b, ws2, us, rfl, rfl, hp2, s1, size_small (by omega), h Z' σ _ ha hb⟩
    | _ => exact h.elim
  exact goal
/-- x[i] = e -/
def setItemS (i : Nat) (ie e : Env → T D) : SD := fun env => (T.ofO (ownAt env i)).bind fun xs => (e env).bind fun d => (ie env).bind fun k => match k with
  | .int k => (T.ofO (ixN xs.length k)).bind fun j => if flatD d = true ∧ xs.all flatD = true then .ret (.nx (env.set i (some (.lst .own (xs.set j d))))) else .fail
  | _ => .fail
theorem flat_set {xs : List D} {d : D} (h : xs.all flatD = true) (hd : flatD d = true) (j : Nat) : (xs.set j d).all flatD = true := by
  rw [List.all_eq_true] at h ⊢
  intro x hx
  rcases List.mem_or_eq_of_mem_set hx with q | q
  · exact h x q
  · rw [q]; exact hd
theorem RepL.setF {Z : Zs} {H : Hp} {m : Fl} {d : D} {v : V} (r1 : RepL K Z H m [d] [v] []) : ∀ {xs : List D} {ws : List V} (j : Nat), RepL K Z H m xs ws [] → RepL K Z H m (xs.set j d) (ws.set j v) []
  | [], ws, j, h => by
    obtain ⟨rfl, _⟩ := h.nil_inv
    exact .nil
  | x :: xs, [], j, h => by have := h.len; simp at this
  | x :: xs, w :: ws, 0, h => by
    obtain ⟨F1, F2, e, _, h2⟩ := h.uncons
    obtain ⟨rfl, rfl⟩ := List.append_eq_nil_iff.mp e.symm
    exact RepL.cons1 r1 h2
  | x :: xs, w :: ws, j + 1, h => by
    obtain ⟨F1, F2, e, h1, h2⟩ := h.uncons
    obtain ⟨rfl, rfl⟩ := List.append_eq_nil_iff.mp e.symm
    exact RepL.cons1 h1 (RepL.setF r1 j h2)
theorem rdS_setItem {i : Nat} {ie e : Env → T D} {dn : Ends} {σ : L2.St} {H : Hp} (h : RdS K G (setItemS i ie e) dn σ H) : tAsg (RdE K G e) (gSub (tVar i) (RdE K G ie) rSetL) dn σ H := by
  obtain ⟨Z, env, S, h⟩ := h
  obtain ⟨xs, eo, h⟩ := mat_o h
  have ex := ownAt_some eo
  refine ⟨Z, env, S, (T.holds_bind h).mono fun d h Z1 v H1 F1 o => ?_⟩
  have S1 := S.go o.go
  refine tVar_of S1 ex fun p ws ev hp => ⟨Z1, env, S1, (T.holds_bind h).mono fun k h Z2 kv H2 F2 o2 => ?_⟩
  cases k with
  | int k =>
    obtain ⟨j, ej, h⟩ := mat_o h
    obtain ⟨c, h⟩ := ite_holds h
    obtain ⟨p2, ws2, F', ev2, hp2, r, nF', kF, hk, hm⟩ := mut_of S ex (o.go.trans o2.go)
    rw [ev] at ev2
    cases ev2
    have t2 := o.tmp.go o2.go fun q hq => (o.new.new q hq).2.2
    have rd : RepL K (G.zs Z2) H2 .own [d] [v] [] := t2.t.flat (fun _ z => z) (fun _ z => z) (fun _ z => z) (by simp [c.1])
    have rx : RepL K (G.zs Z2) H2 .own xs ws2 [] := r.flat (fun _ z => z) (fun _ z => z) (fun _ z => z) c.2
    obtain ⟨ha, hb⟩ := hm (xs.set j d) (ws2.set j v) [] (RepL.setF rd j rx) (fun q hq => nomatch hq) .nil
    exact ⟨p, ws2, k, j, rfl, int_val o2.tmp, hp2, by rw [← r.len]; exact ej, h Z2 σ _ ha hb⟩
  | _ => exact h.elim
/-- x.pop(e), what is taken out flat -/
def popE (i : Nat) (e : Env → T D) : Env → T (D × Env) := fun env => (T.ofO (ownAt env i)).bind fun xs => (e env).bind fun k => match k with
  | .int k => if -(2 ^ 63) ≤ k ∧ k < 2 ^ 63 then (T.ofO (seqIndex? k xs.length)).bind fun j => (T.ofO xs[j]?).bind fun d => if xs.all flatD = true then .ret (d, env.set i (some (.lst .own (xs.eraseIdx j)))) else .fail else .fail
  | _ => .fail
theorem RepL.era {Z : Zs} {H : Hp} {m : Fl} : ∀ {xs : List D} {ws : List V} (j : Nat), RepL K Z H m xs ws [] → RepL K Z H m (xs.eraseIdx j) (ws.eraseIdx j) []
  | [], ws, j, h => by
    obtain ⟨rfl, _⟩ := h.nil_inv
    exact .nil
  | x :: xs, [], j, h => by have := h.len; simp at this
  | x :: xs, w :: ws, 0, h => by
    obtain ⟨F1, F2, e, _, h2⟩ := h.uncons
    obtain ⟨rfl, rfl⟩ := List.append_eq_nil_iff.mp e.symm
    exact h2
  | x :: xs, w :: ws, j + 1, h => by
    obtain ⟨F1, F2, e, h1, h2⟩ := h.uncons
    obtain ⟨rfl, rfl⟩ := List.append_eq_nil_iff.mp e.symm
    exact RepL.cons1 h1 (RepL.era j h2)
theorem rdX_pop {i : Nat} {e : Env → T D} {σ : L2.St} {H : Hp} {Q : VK} (h : RdX K G (popE i e) σ H Q) : tBM K "list" rPopAt (tVar i) (RdA K G (argsN e args0)) σ H Q := by
  obtain ⟨Z, env, S, h⟩ := h
  obtain ⟨xs, eo, h⟩ := mat_o h
  have ex := ownAt_some eo
  refine tVar_of S ex fun p ws ev hp => ⟨.inl ⟨rfl, _, .inl (.of hp)⟩, Z, env, S, T.bind_holds ((T.holds_bind h).mono fun k h Z' vs H' F o => ?_)⟩
  cases k with
  | int k =>
    obtain ⟨ck, h⟩ := ite_holds h
    obtain ⟨j, ej, h⟩ := mat_o h
    obtain ⟨d, ed, h⟩ := mat_o h
    obtain ⟨c, h⟩ := ite_holds h
    obtain ⟨p2, ws2, F', ev2, hp2, r, nF', kF, hk, hm⟩ := mut_of S ex o.go
    rw [ev] at ev2
    cases ev2
    have rx : RepL K (G.zs Z') H' .own xs ws2 [] := r.flat (fun _ z => z) (fun _ z => z) (fun _ z => z) c
    obtain ⟨v, F1, e1, sub, r1⟩ := rx.at ed
    have eF : F1 = [] := List.sublist_nil.mp sub
    subst eF
    have l := rx.len
    obtain ⟨ha, hb⟩ := hm (xs.eraseIdx j) (ws2.eraseIdx j) [] (RepL.era j rx) (fun q hq => nomatch hq) .nil
    have fd : flatD d = true := List.all_eq_true.mp c d (List.mem_of_getElem? ed)
    cases o.tmp with
    | cons t1 t2 =>
      cases t2
      have nb : topBor d = false := flat_nb fd
      exact ⟨p, ws2, k, j, v, rfl, by rw [int_val t1], hp2, ck.1, ck.2, by rw [← l]; exact ej, e1, h Z' v _ ⟨ha, hb, nb, hk _ _ _ _ r1⟩⟩
  | _ => exact h.elim
/-- what changes a list, as a value to store or to hand on -/
def setXS (i : Nat) (e : Env → T (D × Env)) : SD := fun env => (e env).bind fun r => .ret (.nx (r.2.set i (some r.1)))
theorem rdS_setX {i : Nat} {e : Env → T (D × Env)} {dn : Ends} {σ : L2.St} {H : Hp} (h : RdS K G (setXS i e) dn σ H) : tAsg (RdX K G e) (gName i) dn σ H := by
  obtain ⟨Z, env, S, h⟩ := h
  refine ⟨Z, env, S, (T.holds_bind h).mono fun r h Z' v H' o => ?_⟩
  obtain ⟨Fs, S'⟩ := o.st
  exact h Z' _ H' (S'.put0 o.rep) o.keep
/-- x.append(what changes another list) -/
def appendXS (i : Nat) (e : Env → T (D × Env)) : SD := fun env => (T.ofO (ownAt env i)).bind fun _ => (e env).bind fun r => (T.ofO (ownAt r.2 i)).bind fun xs => if xs.length ≤ 1000000 then .ret (.nx (r.2.set i (some (.lst .own (xs ++ [r.1]))))) else .fail
theorem rdS_appendX {i : Nat} {e : Env → T (D × Env)} {dn : Ends} {σ : L2.St} {H : Hp} (h : RdS K G (appendXS i e) dn σ H) : tDrop (tBM K "list" rAppend (tVar i) (tCons (RdX K G e) tNil)) dn σ H := by
  obtain ⟨Z, env, S, h⟩ := h
  obtain ⟨xs0, eo, h⟩ := mat_o h
  have ex := ownAt_some eo
  have goal : tVar i σ H fun x H1 => tyV K "list" x H1 ∧ (tCons (RdX K G e) tNil) σ H1 fun vs H2 => rAppend x vs H2 fun _ H' => dn.nx σ H' := by
    refine tVar_of S ex fun p ws ev hp => ⟨.inl ⟨rfl, _, .inl (.of hp)⟩, Z, env, S, (T.holds_bind h).mono fun r h Z' v H' o => ?_⟩
    obtain ⟨xs, ex', h⟩ := mat_o h
    obtain ⟨c, h⟩ := ite_holds h
    obtain ⟨p2, ws2, F', ev2, hp2, r2, nF', kF, hk, hm⟩ := mut_of o.st (ownAt_some ex') o.st.goR
    rw [ev] at ev2
    cases ev2
    have l := r2.len
    obtain ⟨ha, hb⟩ := hm (xs ++ [r.1]) (ws2 ++ [v]) (F' ++ []) (RepL.append r2 o.rep) (fun q hq => .inl (by simpa using hq)) (by simpa using nF')
    exact ⟨p, ws2, v, rfl, rfl, hp2, size_lt (by omega), h Z' σ _ ha (o.keep.trans hb)⟩
  exact goal
end
section
variable {X : Cx} {G : Gh} {e o : Expr} {pos apos cpos : Pos} {x : Str} {de di : Env → T D}
/-- the slot of a name -/
abbrev IsSl (X : Cx) (i : Nat) (x : Str) : Prop := X.N[i]? = some x ∧ Vis X.env.scope x ∧ (x == ("__debug__" : Str)) = false ∧ (x == ("__classdict__" : Str)) = false
theorem IsSl.pe {i : Nat} (h : IsSl X i x) : PE X (.Name x pos) (tVar i) := pe_var h.1 h.2.1 h.2.2.1 h.2.2.2
theorem st_append {xp : Pos} (i : Nat) (hi : IsSl X i x) (he : PA X [e] (RdA X.K G (argsN de args0)))
    (h1 : attributeBase (.Name x xp) "append" X.env (eval (.Name x xp) X.env) = eval (.Name x xp) X.env := by rfl)
    (h2 : ((backTo cpos (starEach [e] X.env)).all (fun x => !x.1) && (backToKw cpos (keywordEach [] X.env)).all (fun x => x.1.isSome) && decide ([e].length + ([] : List Keyword).length + (if ([] : List Keyword).isEmpty then 0 else 1) < 30)) = true := by rfl)
    (h3 : (apos.endLine == cpos.line) = true := by rfl) (h4 : starEach [e] X.env = (false, eval e X.env) :: starEach [] X.env := by rfl) (h5 : (backTo cpos (starEach [] X.env)).any (·.1) = false := by rfl)
    (hs : swapsWith (.Call (.Attribute (.Name x xp) "append" apos) [e] [] cpos) none pos.line X.env = pure false := by rfl) : PS X (.Expr (.Call (.Attribute (.Name x xp) "append" apos) [e] [] cpos) pos) (RdS X.K G (appendS i de)) :=
  PS.imp (ps_expr (pe_bm PySem.F.plainAttrs_list PySem.F.slot_list_append PySem.F.type_list_append mt_append hi.pe he h1 h2 h3 h4 h5) hs) fun _ _ _ h => rdS_append h
theorem st_appendX {xp : Pos} {dx : Env → T (D × Env)} (i : Nat) (hi : IsSl X i x) (he : PE X e (RdX X.K G dx))
    (h1 : attributeBase (.Name x xp) "append" X.env (eval (.Name x xp) X.env) = eval (.Name x xp) X.env := by rfl)
    (h2 : ((backTo cpos (starEach [e] X.env)).all (fun x => !x.1) && (backToKw cpos (keywordEach [] X.env)).all (fun x => x.1.isSome) && decide ([e].length + ([] : List Keyword).length + (if ([] : List Keyword).isEmpty then 0 else 1) < 30)) = true := by rfl)
    (h3 : (apos.endLine == cpos.line) = true := by rfl) (h4 : starEach [e] X.env = (false, eval e X.env) :: starEach [] X.env := by rfl) (h5 : (backTo cpos (starEach [] X.env)).any (·.1) = false := by rfl)
    (hs : swapsWith (.Call (.Attribute (.Name x xp) "append" apos) [e] [] cpos) none pos.line X.env = pure false := by rfl) : PS X (.Expr (.Call (.Attribute (.Name x xp) "append" apos) [e] [] cpos) pos) (RdS X.K G (appendXS i dx)) :=
  PS.imp (ps_expr (pe_bm PySem.F.plainAttrs_list PySem.F.slot_list_append PySem.F.type_list_append mt_append hi.pe (pa_cons he pa_nil h4) h1 h2 h3 h4 h5) hs) fun _ _ _ h => rdS_appendX h
theorem st_extend {xp : Pos} (i : Nat) (hi : IsSl X i x) (he : PA X [e] (RdA X.K G (argsN de args0)))
    (h1 : attributeBase (.Name x xp) "extend" X.env (eval (.Name x xp) X.env) = eval (.Name x xp) X.env := by rfl)
    (h2 : ((backTo cpos (starEach [e] X.env)).all (fun x => !x.1) && (backToKw cpos (keywordEach [] X.env)).all (fun x => x.1.isSome) && decide ([e].length + ([] : List Keyword).length + (if ([] : List Keyword).isEmpty then 0 else 1) < 30)) = true := by rfl)
    (h3 : (apos.endLine == cpos.line) = true := by rfl) (h4 : starEach [e] X.env = (false, eval e X.env) :: starEach [] X.env := by rfl) (h5 : (backTo cpos (starEach [] X.env)).any (·.1) = false := by rfl)
    (hs : swapsWith (.Call (.Attribute (.Name x xp) "extend" apos) [e] [] cpos) none pos.line X.env = pure false := by rfl) : PS X (.Expr (.Call (.Attribute (.Name x xp) "extend" apos) [e] [] cpos) pos) (RdS X.K G (extendS i de)) :=
  PS.imp (ps_expr (pe_bm PySem.F.plainAttrs_list PySem.F.slot_list_extend PySem.F.type_list_extend mt_extend hi.pe he h1 h2 h3 h4 h5) hs) fun _ _ _ h => rdS_extend h
theorem ex_pop {xp : Pos} (i : Nat) (hi : IsSl X i x) (he : PA X [e] (RdA X.K G (argsN de args0)))
    (h1 : attributeBase (.Name x xp) "pop" X.env (eval (.Name x xp) X.env) = eval (.Name x xp) X.env := by rfl)
    (h2 : ((backTo cpos (starEach [e] X.env)).all (fun x => !x.1) && (backToKw cpos (keywordEach [] X.env)).all (fun x => x.1.isSome) && decide ([e].length + ([] : List Keyword).length + (if ([] : List Keyword).isEmpty then 0 else 1) < 30)) = true := by rfl)
    (h3 : (apos.endLine == cpos.line) = true := by rfl) (h4 : starEach [e] X.env = (false, eval e X.env) :: starEach [] X.env := by rfl) (h5 : (backTo cpos (starEach [] X.env)).any (·.1) = false := by rfl) :
    PE X (.Call (.Attribute (.Name x xp) "pop" apos) [e] [] cpos) (RdX X.K G (popE i de)) :=
  PE.imp (pe_bm PySem.F.plainAttrs_list PySem.F.slot_list_pop PySem.F.type_list_pop mt_popAt hi.pe he h1 h2 h3 h4 h5) fun _ _ _ h => rdX_pop h
theorem st_setX {y : Str} {pos' : Pos} {dx : Env → T (D × Env)} (i : Nat) (hN : X.N.Nodup) (he : PE X e (RdX X.K G dx)) (hi : X.N[i]? = some y := by rfl) (hx : Loc X.env.scope y := by first | exact Or.inl rfl | exact Or.inr rfl) (hs : swapsWith e (some (.Name y pos')) pos.line X.env = pure false := by rfl)
    (hf : X.fn y = true ∨ X.env.scope.names.lookup y = some .local := by first | exact .inl rfl | exact .inr rfl) : PS X (.Assign [.Name y pos'] e pos) (RdS X.K G (setXS i dx)) := PS.imp (ps_set hN hi hx he hs hf) fun _ _ _ h => rdS_setX h
theorem st_setItem {ie : Expr} {xp p2 : Pos} (i : Nat) (hi : IsSl X i x) (hix : PE X ie (RdE X.K G di)) (he : PE X e (RdE X.K G de))
    (ha : ∀ v, assign (.Subscript (.Name x xp) ie p2) X.env v = (do
      let ov ← holding [v] (eval (.Name x xp) X.env)
      let iv ← holding [v, ov] (eval ie X.env)
      standAt p2
      holding [v, ov, iv] (setItem ov iv v)
      release [v, ov, iv] []) := by intro _; rfl)
    (hs : swapsWithSole [.Subscript (.Name x xp) ie p2] e pos.line X.env = pure false := by rfl) (hw : swappedStores [.Subscript (.Name x xp) ie p2] e X.env = pure none := by rfl)
    (h1 : (assignEach [.Subscript (.Name x xp) ie p2] X.env).map (·.2) = [assign (.Subscript (.Name x xp) ie p2) X.env] := by rfl) : PS X (.Assign [.Subscript (.Name x xp) ie p2] e pos) (RdS X.K G (setItemS i di de)) :=
  PS.imp (ps_asg he (pg_sub hi.pe hix set_list ha) hs hw h1) fun _ _ _ h => rdS_setItem h
end
end Dn

set_option Elab.async false
set_option linter.all false
set_option maxRecDepth 100000
namespace Dn
open PySem PySem.Spec PyProof.Rows L2
section
variable {K : PySem.W.Frag} {G : Gh} {X : Cx}
/-! ## isinstance -/
def tagD : D → Option String
  | .non => some "NoneType" | .bl _ => some "bool" | .int _ => some "int" | .str _ => some "str" | .tup _ => some "tuple" | .lst _ _ => some "list" | .dic _ _ => none | .pot => none
/-- of the built-in type c -/
def isTy (c a : String) : Bool := c == a || (c == "int" && a == "bool")
def tags : List String := ["NoneType", "bool", "int", "str", "tuple", "list", "dict"]
def wants : List String := ["bool", "int", "str", "tuple", "list", "dict"]
theorem kit_all : (tags.all fun a => wants.all fun c => kitB a c == some (isTy c a)) = true := by decide +kernel
theorem kit_at {a c : String} (ha : a ∈ tags) (hc : c ∈ wants) : kitB a c = some (isTy c a) := by
  have h := List.all_eq_true.mp (List.all_eq_true.mp kit_all a ha) c hc
  exact eq_of_beq h
theorem tag_mem {d : D} {a : String} (h : tagD d = some a) : a ∈ tags := by
  cases d <;> simp [tagD] at h <;> subst h <;> decide
theorem Tmp.tag {Z : Addr → Prop} {H : Hp} {d : D} {v : V} {F : List Addr} (t : Tmp K G Z H d v F) {a : String} (h : tagD d = some a) : TyX K H v (.type a) := by
  cases d <;> simp [tagD] at h <;> subst h
  · rw [non_val t]; exact .base .non
  · rw [bl_val t]; exact .base (.bl _)
  · rw [int_val t]; exact .base (.int _)
  · rw [str_val t]; exact .base (.str _)
  · obtain ⟨p, ws, rfl, s, _⟩ := tup_val t
    rcases s with ⟨o, _, s⟩ | ⟨o, its, n, e, c, _⟩
    · exact .fTuple s
    · exact .kTuple e c.1
  · obtain ⟨p, ws, _, rfl, s, _⟩ := lst_val t
    exact .base (.lst s)
def isiD (cs : List String) (d : D) : T D := (T.ofO (tagD d)).bind fun a => .ret (.bl (cs.any fun c => isTy c a))
theorem ee_isi {e : Expr} {de : Env → T D} {p q pos : Pos} {c : Str} (ty : String) (he : PE X e (RdE X.K G de)) (hg : Gl X "isinstance") (hm : X.mg "isinstance" = none) (hgc : Gl X c) (hmc : X.mg c = none) (hvc : bootBuiltins c = some (.type ty)) (hw : ty ∈ wants := by decide)
    (hnc : c ≠ "__name__" := by decide) (hdc : (c == ("__debug__" : Str)) = false := by decide) (hs : starEach [e, .Name c q] X.env = (false, eval e X.env) :: starEach [.Name c q] X.env := by rfl) (hs2 : starEach [.Name c q] X.env = (false, eval (.Name c q) X.env) :: starEach [] X.env := by rfl) (hpl : (backTo pos (starEach [.Name c q] X.env)).any (·.1) = false := by rfl) :
    PE X (.Call (.Name "isinstance" p) [e, .Name c q] [] pos) (RdE X.K G (un1 (isiD [ty]) de)) :=
  PE.imp (pe_callB call_isi hg hm PyProof.Rows.boot_isinstance (pa_cons he (pa_cons (pe_bltn (v := .ty ty) hgc hmc hvc rfl hnc hdc) pa_nil hs2) hs) (by decide) (by decide) hs hpl) fun σ H Q h => by
    obtain ⟨Z, env, S, h⟩ := h
    refine ⟨Z, env, S, (T.holds_bind h).mono fun d h Z1 v1 H1 F1 e => ?_⟩
    obtain ⟨a, ea, h⟩ := mat_o h
    refine ⟨v1, .ty ty, .type a, .type ty, _, rfl, .ty ty, e.tmp.tag ea, kit_ty (kit_at (tag_mem ea) hw), h Z1 _ H1 [] ⟨e.go, tmp_sc ?_, .nil⟩⟩
    show some (V.bl (isTy ty a || false)) = _
    rw [Bool.or_false]
theorem kitAny_two {a c d : String} (ha : a ∈ tags) (hc : c ∈ wants) (hd : d ∈ wants) : PySem.W.kitAny K (.type a) [.type c, .type d] = some ([c, d].any fun c => isTy c a) := by
  refine kitAny_cons (kit_ty (kit_at ha hc)) (fun h => ?_) fun h => ?_
  · refine kitAny_cons (kit_ty (kit_at ha hd)) (fun h2 => ?_) fun h2 => ?_
    · show some false = some (isTy c a || (isTy d a || false))
      rw [h, h2]; rfl
    · show (isTy c a || (isTy d a || false)) = true
      rw [h, h2]; rfl
  · show (isTy c a || (isTy d a || false)) = true
    rw [h]; rfl
theorem ee_isi2 {e : Expr} {de : Env → T D} {p q1 q2 q pos : Pos} {k : Nat} {c d : Str} (ty ty2 : String) (he : PE X e (RdE X.K G de)) (hg : Gl X "isinstance") (hm : X.mg "isinstance" = none) (hgc : Gl X c) (hmc : X.mg c = none) (hvc : bootBuiltins c = some (.type ty)) (hgd : Gl X d) (hmd : X.mg d = none) (hvd : bootBuiltins d = some (.type ty2)) (hw : ty ∈ wants := by decide) (hw2 : ty2 ∈ wants := by decide)
    (hnc : c ≠ "__name__" := by decide) (hdc : (c == ("__debug__" : Str)) = false := by decide) (hnd : d ≠ "__name__" := by decide) (hdd : (d == ("__debug__" : Str)) = false := by decide)
    (hs : starEach [e, .Tuple [.Name c q1, .Name d q2] k q] X.env = (false, eval e X.env) :: starEach [.Tuple [.Name c q1, .Name d q2] k q] X.env := by rfl) (hs2 : starEach [.Tuple [.Name c q1, .Name d q2] k q] X.env = (false, eval (.Tuple [.Name c q1, .Name d q2] k q) X.env) :: starEach [] X.env := by rfl)
    (hs3 : starEach [.Name c q1, .Name d q2] X.env = (false, eval (.Name c q1) X.env) :: starEach [.Name d q2] X.env := by rfl) (hs4 : starEach [.Name d q2] X.env = (false, eval (.Name d q2) X.env) :: starEach [] X.env := by rfl) (hpl : (backTo pos (starEach [.Tuple [.Name c q1, .Name d q2] k q] X.env)).any (·.1) = false := by rfl) :
    PE X (.Call (.Name "isinstance" p) [e, .Tuple [.Name c q1, .Name d q2] k q] [] pos) (RdE X.K G (un1 (isiD [ty, ty2]) de)) :=
  PE.imp (pe_callB call_isiT hg hm PyProof.Rows.boot_isinstance (pa_cons he (pa_cons (pe_tup (pa_cons (pe_bltn (v := .ty ty) hgc hmc hvc rfl hnc hdc) (pa_cons (pe_bltn (v := .ty ty2) hgd hmd hvd rfl hnd hdd) pa_nil hs4) hs3)) pa_nil hs2) hs) (by decide) (by decide) hs hpl) fun σ H Q h => by
    obtain ⟨Z, env, S, h⟩ := h
    refine ⟨Z, env, S, (T.holds_bind h).mono fun d h Z1 v1 H1 F1 e => ⟨by rw [sizeLine_eq]; show 2 ≤ _; omega, fun p n => ?_⟩⟩
    obtain ⟨a, ea, h⟩ := mat_o h
    have g := Go.new (o := .tup [.ty ty, .ty ty2]) e.go.potB e.go.zB n
    have q := Go.ex e g
    exact ⟨v1, p, _, _, _, _, rfl, upd_same, .cons (.ty ty) (.cons (.ty ty2) .nil), q.tmp.tag ea, kitAny_two (tag_mem ea) hw hw2, h Z1 _ _ [] ⟨q.go, tmp_sc rfl, .nil⟩⟩

/-! ## a < b < c -/
def chainE (o o' : D → D → T D) (a b c : Env → T D) : Env → T D := fun env => (a env).bind fun x => (b env).bind fun y => (o x y).bind fun z => match z with
  | .bl b => match y with
    | .int j => if b then (c env).bind fun w => o' (.int j) w else .ret (.bl false)
    | _ => .fail
  | _ => .fail
theorem rd_chain {r r' : R2} {o o' : D → D → T D} (ho : Op2 K G r o) (ho' : Op2 K G r' o') {a b c : Env → T D} {σ : L2.St} {H : Hp} {Q : VK} (h : RdE K G (chainE o o' a b c) σ H Q) : tChain r r' (RdE K G a) (RdE K G b) (RdE K G c) σ H Q := by
  obtain ⟨Z, env, S, h⟩ := h
  refine ⟨Z, env, S, (T.holds_bind h).mono fun d1 h Z1 v1 H1 F1 e1 => ⟨Z1, env, S.go e1.go, (T.holds_bind h).mono fun d2 h Z2 v2 H2 F2 e2 => ?_⟩⟩
  have n1 := e1.new.go e2.go e1.tmp.known
  have n := n1.app e2.new e1.go.grow e1.tmp.known
  have g := e1.go.trans e2.go
  refine ho Z2 H2 d1 v1 F1 d2 v2 F2 _ (e1.tmp.go e2.go fun p hp => (e1.new.new p hp).2.2) e2.tmp (.of S g n) ((T.holds_bind h).mono fun d3 h Z3 v3 H3 F3 o3 => ?_)
  have e3 := o3.ex g n
  cases d3 <;> first | exact h.elim | skip
  rename_i k
  obtain ⟨j, ed⟩ : ∃ j, d2 = .int j := by
    cases d2 <;> first | exact h.elim | exact ⟨_, rfl⟩
  subst ed
  have ev := int_val e2.tmp
  subst ev
  refine ⟨k, bl_val e3.tmp, ?_⟩
  cases k with
  | false => exact h Z3 _ H3 [] ⟨e3.go, tmp_sc rfl, .nil⟩
  | true =>
    rw [if_pos rfl]
    refine ⟨Z3, env, S.go e3.go, (T.holds_bind h).mono fun d4 h Z4 v4 H4 F4 e4 => ?_⟩
    have g4 := e3.go.trans e4.go
    have n4 := e4.new.back e3.go.grow
    exact ho' Z4 H4 (.int j) (.int j) [] d4 v4 F4 Q (tmp_sc rfl) e4.tmp (.of S g4 n4) (h.mono fun d h Z' v H' F o => h Z' v H' F (o.ex g4 n4))
theorem ee_chain {op op' : CmpOp} {r r' : R2} {o o' : D → D → T D} {a b c : Expr} {da db dc : Env → T D} {pos : Pos} (hr : OpR X (compareOp op) r) (hr' : OpR X (compareOp op') r') (ho : Op2 X.K G r o) (ho' : Op2 X.K G r' o') (ha : PE X a (RdE X.K G da)) (hb : PE X b (RdE X.K G db)) (hc : PE X c (RdE X.K G dc))
    (hm : lastMarks [op, op'] [b, c] = false := by with_unfolding_all rfl) : PE X (.Compare a [op, op'] [b, c] pos) (RdE X.K G (chainE o o' da db dc)) := PE.imp (pe_chain hr hr' ha hb hc hm) fun _ _ _ h => rd_chain ho ho' h
theorem tt_chain {op op' : CmpOp} {r r' : R2} {o o' : D → D → T D} {a b c : Expr} {da db dc : Env → T D} {pos : Pos} (hr : OpR X (compareOp op) r) (hr' : OpR X (compareOp op') r') (ho : Op2 X.K G r o) (ho' : Op2 X.K G r' o') (ha : PE X a (RdE X.K G da)) (hb : PE X b (RdE X.K G db)) (hc : PE X c (RdE X.K G dc))
    (hm : lastMarks [op, op'] [b, c] = false := by with_unfolding_all rfl) : PT X (.Compare a [op, op'] [b, c] pos) (RdT X.K G (testE (chainE o o' da db dc))) := PT.imp (pt_chain hr hr' ha hb hc hm) fun σ H Q h => by
  obtain ⟨Z, env, S, h⟩ := h
  have h2 : RdE X.K G (chainE o o' da db dc) σ H fun x H1 => ∃ k, x = .bl k ∧ Q k H1 := ⟨Z, env, S, (testE_holds h).mono fun d ⟨k, ed, h⟩ Z' v H' F o => by
    subst ed
    exact ⟨k, bl_val o.tmp, h Z' H' o.go⟩⟩
  exact rd_chain ho ho' h2
/-- an int, None, a string, a truth value of the text's own globals -/
theorem ee_glob {x : Str} {d : D} {v : V} {u : Value} {pos : Pos} (hg : Gl X x) (hm : X.mg x = some u) (r : RelV v u) (e : scV d = some v := by rfl) (hd : (x == ("__debug__" : Str)) = false := by decide) : PE X (.Name x pos) (RdE X.K G (con d)) :=
  PE.imp (pe_glob hg hm r hd) fun _ _ _ h => rd_sc e h

/-! ## list(range(..)), tuple(range(..)) -/
def rgOk (a b : Int) : Bool := decide (-1000000 ≤ a ∧ a ≤ 1000000 ∧ -1000000 ≤ b ∧ b ≤ 1000000)
theorem rgOk_of {a b : Int} (h : rgOk a b = true) : RgOk a b := by
  have h := of_decide_eq_true h
  exact ⟨by omega, by omega, by omega, by omega, by omega⟩
theorem rep_rg {Z : Zs} {H : Hp} {m : Fl} (a b : Int) : RepL K Z H m (rgD a b) (rgV a b) [] := by
  unfold rgD rgV
  generalize List.range (b - a).toNat = l
  induction l with
  | nil => exact .nil
  | cons i l ih => exact .sc rfl ih
def lstRg1 : D → T D
  | .int n => if rgOk 0 n = true then .ret (.lst .own (rgD 0 n)) else .fail
  | _ => .fail
def lstRg2 : D → D → T D
  | .int a, .int n => if rgOk a n = true then .ret (.lst .own (rgD a n)) else .fail
  | _, _ => .fail
def tupRg1 : D → T D
  | .int n => if rgOk 0 n = true then .ret (.tup (rgD 0 n)) else .fail
  | _ => .fail
def tupRg2 : D → D → T D
  | .int a, .int n => if rgOk a n = true then .ret (.tup (rgD a n)) else .fail
  | _, _ => .fail
theorem o_lstRg1 : Op1 K G (fun x H Q => ∃ n, x = .int n ∧ RgOk 0 n ∧ ∀ q, H q = none → Q (.ref q) (upd H q (.lst (rgV 0 n)))) lstRg1 := by
  intro Z H d1 v1 F1 Q t1 p h
  cases d1 <;> first | exact h.elim | skip
  obtain ⟨c, h⟩ := ite_holds h
  exact ⟨_, int_val t1, rgOk_of c, fun q n => h Z _ _ _ (.lst p (rep_rg _ _) (List.nil_sublist _) n)⟩
theorem o_lstRg2 : Op2 K G (fun x y H Q => ∃ i j, x = .int i ∧ y = .int j ∧ RgOk i j ∧ ∀ q, H q = none → Q (.ref q) (upd H q (.lst (rgV i j)))) lstRg2 := by
  intro Z H d1 v1 F1 d2 v2 F2 Q t1 t2 p h
  cases d1 <;> cases d2 <;> first | exact h.elim | skip
  obtain ⟨c, h⟩ := ite_holds h
  exact ⟨_, _, int_val t1, int_val t2, rgOk_of c, fun q n => h Z _ _ _ (.lst p (rep_rg _ _) (List.nil_sublist _) n)⟩
theorem o_tupRg1 : Op1 K G (fun x H Q => ∃ n, x = .int n ∧ RgOk 0 n ∧ MkT H (rgV 0 n) Q) tupRg1 := by
  intro Z H d1 v1 F1 Q t1 p h
  cases d1 <;> first | exact h.elim | skip
  obtain ⟨c, h⟩ := ite_holds h
  exact ⟨_, int_val t1, rgOk_of c, fun q o ho n => h Z _ _ _ (.tup0 p (rep_rg _ _) ho n)⟩
theorem o_tupRg2 : Op2 K G (fun x y H Q => ∃ i j, x = .int i ∧ y = .int j ∧ RgOk i j ∧ MkT H (rgV i j) Q) tupRg2 := by
  intro Z H d1 v1 F1 d2 v2 F2 Q t1 t2 p h
  cases d1 <;> cases d2 <;> first | exact h.elim | skip
  obtain ⟨c, h⟩ := ite_holds h
  exact ⟨_, _, int_val t1, int_val t2, rgOk_of c, fun q o ho n => h Z _ _ _ (.tup0 p (rep_rg _ _) ho n)⟩
section
variable {a b : Expr} {da db : Env → T D} {p p2 pos pos2 : Pos}
abbrev rgCall (p2 pos2 : Pos) (es : List Expr) : Expr := .Call (.Name "range" p2) es [] pos2
theorem ee_listRg1 (hc : X.calm = true) (hg : Gl X "list") (hm : X.mg "list" = none) (hg2 : Gl X "range") (hm2 : X.mg "range" = none) (ha : PE X a (RdE X.K G da)) (na : starEach [a] X.env = (false, eval a X.env) :: starEach [] X.env := by rfl) (nb : starEach [rgCall p2 pos2 [a]] X.env = (false, eval (rgCall p2 pos2 [a]) X.env) :: starEach [] X.env := by rfl) :
    PE X (.Call (.Name "list" p) [.Call (.Name "range" p2) [a] [] pos2] [] pos) (RdE X.K G (un1 lstRg1 da)) := PE.imp (pe_listRg hc hg hm (prg_1 hg2 hm2 ha na) nb) fun _ _ _ h => rd1 o_lstRg1 h
theorem ee_tupRg1 (hc : X.calm = true) (hg : Gl X "tuple") (hm : X.mg "tuple" = none) (hg2 : Gl X "range") (hm2 : X.mg "range" = none) (ha : PE X a (RdE X.K G da)) (na : starEach [a] X.env = (false, eval a X.env) :: starEach [] X.env := by rfl) (nb : starEach [rgCall p2 pos2 [a]] X.env = (false, eval (rgCall p2 pos2 [a]) X.env) :: starEach [] X.env := by rfl) :
    PE X (.Call (.Name "tuple" p) [.Call (.Name "range" p2) [a] [] pos2] [] pos) (RdE X.K G (un1 tupRg1 da)) := PE.imp (pe_tupRgX hc hg hm (prg_1 hg2 hm2 ha na) nb) fun _ _ _ h => rd1 o_tupRg1 h
theorem ee_listRg2 (hc : X.calm = true) (hg : Gl X "list") (hm : X.mg "list" = none) (hg2 : Gl X "range") (hm2 : X.mg "range" = none) (ha : PE X a (RdE X.K G da)) (hb : PE X b (RdE X.K G db)) (na : starEach [a, b] X.env = (false, eval a X.env) :: starEach [b] X.env := by rfl) (na2 : starEach [b] X.env = (false, eval b X.env) :: starEach [] X.env := by rfl) (hp : (backTo pos2 (starEach [b] X.env)).any (·.1) = false := by rfl)
    (nb : starEach [rgCall p2 pos2 [a, b]] X.env = (false, eval (rgCall p2 pos2 [a, b]) X.env) :: starEach [] X.env := by rfl) :
    PE X (.Call (.Name "list" p) [.Call (.Name "range" p2) [a, b] [] pos2] [] pos) (RdE X.K G (bin2 lstRg2 da db)) := PE.imp (pe_listRg hc hg hm (prg_2 hg2 hm2 ha hb na na2 hp) nb) fun _ _ _ h => rd2 o_lstRg2 h
theorem ee_tupRg2 (hc : X.calm = true) (hg : Gl X "tuple") (hm : X.mg "tuple" = none) (hg2 : Gl X "range") (hm2 : X.mg "range" = none) (ha : PE X a (RdE X.K G da)) (hb : PE X b (RdE X.K G db)) (na : starEach [a, b] X.env = (false, eval a X.env) :: starEach [b] X.env := by rfl) (na2 : starEach [b] X.env = (false, eval b X.env) :: starEach [] X.env := by rfl) (hp : (backTo pos2 (starEach [b] X.env)).any (·.1) = false := by rfl)
    (nb : starEach [rgCall p2 pos2 [a, b]] X.env = (false, eval (rgCall p2 pos2 [a, b]) X.env) :: starEach [] X.env := by rfl) :
    PE X (.Call (.Name "tuple" p) [.Call (.Name "range" p2) [a, b] [] pos2] [] pos) (RdE X.K G (bin2 tupRg2 da db)) := PE.imp (pe_tupRgX hc hg hm (prg_2 hg2 hm2 ha hb na na2 hp) nb) fun _ _ _ h => rd2 o_tupRg2 h
/-! ## x[::-1], a list -/
def D.revL : D → T D
  | .lst _ xs => .ret (newL xs.reverse)
  | _ => .fail
theorem RepL.rev {Z : Zs} {H : Hp} {m : Fl} : ∀ {xs : List D} {ws : List V}, RepL K Z H m xs ws [] → RepL K Z H m xs.reverse ws.reverse []
  | [], _, h => by
    obtain ⟨rfl, _⟩ := h.nil_inv
    exact .nil
  | x :: xs, [], h => by have := h.len; simp at this
  | x :: xs, w :: ws, h => by
    obtain ⟨F1, F2, e, h1, h2⟩ := h.uncons
    obtain ⟨rfl, rfl⟩ := List.append_eq_nil_iff.mp e.symm
    rw [List.reverse_cons, List.reverse_cons]
    exact RepL.append (RepL.rev h2) h1
theorem o_revL : Op1 K G (fun x H Q => ∃ a xs, x = .ref a ∧ SqL K H a xs ∧ ∀ p, H p = none → Q (.ref p) (upd H p (.lst xs.reverse))) D.revL := by
  intro Z H d1 v1 F1 Q t1 p h
  cases d1 <;> first | exact h.elim | skip
  obtain ⟨pa, ws, e1, s1, b1⟩ := lst_bor t1 (fun z hz => (p.own z hz).2) p.zf
  exact ⟨pa, ws, e1, .of s1, fun q n => h Z _ _ _ (.newL (m := .bor) (F := []) p b1.rev n)⟩
theorem ee_revL {k : Nat} {p1 p2 p3 pos : Pos} (he : PE X a (RdE X.K G da)) : PE X (.Subscript a (.Slice none none (some (.UnaryOp .USub (.Constant (.int 1) k p1) p2)) p3) pos) (RdE X.K G (un1 D.revL da)) := PE.imp (pe_revL he) fun _ _ _ h => rd1 o_revL h
end
end
end Dn

set_option Elab.async false
set_option linter.all false
set_option maxRecDepth 100000
namespace Dn
open PySem PySem.Spec PyProof.Rows L2
/-! ## repr -/
def okS (x : Str) : Prop := ∀ c ∈ x.cps.toList, c < 0x110000
theorem okS_iff {x : Str} : PyData.strOk x = true ↔ okS x := by
  unfold PyData.strOk okS
  rw [← Array.all_toList, List.all_eq_true]
  simp
theorem okS_of (s : String) : okS (Str.ofString s) := by
  intro c hc
  have e : (Str.ofString s).cps.toList = s.toList.map Char.toNat := by
    show ((cpsOfBytes 0 0 s.toByteArray.data.toList).toArray).toList = _
    rw [List.toList_toArray, cpsOfBytes_string]
  rw [e] at hc
  obtain ⟨k, _, rfl⟩ := List.mem_map.mp hc
  have := k.valid
  have h : k.toNat < 0x110000 := by
    rcases this with h | h
    · show k.val.toNat < _
      have : k.val.toNat < 0xd800 := h
      omega
    · exact h.2
  exact h
theorem okS_append {x y : Str} (a : okS x) (b : okS y) : okS (x ++ y) := by
  intro c hc
  have e : (x ++ y).cps.toList = x.cps.toList ++ y.cps.toList := by
    show (x.cps ++ y.cps).toList = _
    rw [Array.toList_append]
  rw [e] at hc
  exact (List.mem_append.mp hc).elim (a c) (b c)
theorem okS_textFrom : ∀ (ts : List Str) (k : Nat) (acc : Str), okS acc → (∀ t ∈ ts, okS t) → okS (textFrom k acc ts)
  | [], _, _, a, _ => a
  | t :: ts, k, acc, a, h => okS_textFrom ts (k + 1) _ (okS_append (okS_append a (okS_of _)) (h t List.mem_cons_self)) fun u hu => h u (List.mem_cons_of_mem _ hu)
theorem okS_join {sep : Str} (hs : okS sep) : ∀ ts : List Str, (∀ t ∈ ts, okS t) → okS (Str.join sep ts)
  | [], _ => okS_of ""
  | [t], h => h t List.mem_cons_self
  | t :: u :: ts, h => okS_append (okS_append (h t List.mem_cons_self) hs) (okS_join hs (u :: ts) fun x hx => h x (List.mem_cons_of_mem _ hx))
theorem okS_char {q c : Nat} (hc : c < 0x110000) : ∀ y ∈ Builtin.Str.reprChar q c, y < 0x110000 := by
  have hex : ∀ w : Nat, ∀ y ∈ List.replicate (w - ((Nat.toDigits 16 c).map Char.toNat).length) 48 ++ (Nat.toDigits 16 c).map Char.toNat, y < 0x110000 := by
    intro w y hy
    rcases List.mem_append.mp hy with h | h
    · rw [List.eq_of_mem_replicate h]; omega
    · obtain ⟨k, _, rfl⟩ := List.mem_map.mp h
      rcases k.valid with h | h
      · have : k.val.toNat < 0xd800 := h
        show k.val.toNat < _
        omega
      · exact h.2
  have two : ∀ a b : Nat, a < 0x110000 → b < 0x110000 → ∀ y ∈ [a, b], y < 0x110000 := by
    intro a b ha hb y hy
    rcases List.mem_cons.mp hy with rfl | hy
    · exact ha
    · rw [List.mem_singleton.mp hy]; exact hb
  have app : ∀ (a b : Nat) (l : List Nat), a < 0x110000 → b < 0x110000 → (∀ y ∈ l, y < 0x110000) → ∀ y ∈ [a, b] ++ l, y < 0x110000 := by
    intro a b l ha hb hl y hy
    exact (List.mem_append.mp hy).elim (two a b ha hb y) (hl y)
  unfold Builtin.Str.reprChar
  dsimp only
  split
  · exact two _ _ (by omega) hc
  split
  · exact two _ _ (by omega) (by omega)
  split
  · exact two _ _ (by omega) (by omega)
  split
  · exact two _ _ (by omega) (by omega)
  split
  · intro y hy
    rw [List.mem_singleton.mp hy]; exact hc
  split
  · exact app _ _ _ (by omega) (by omega) (hex 2)
  split
  · exact app _ _ _ (by omega) (by omega) (hex 4)
  · exact app _ _ _ (by omega) (by omega) (hex 8)
theorem okS_reprText {x : Str} (h : okS x) : okS (reprText x) := by
  have q : reprQuote x < 0x110000 := by unfold reprQuote; split <;> omega
  intro c hc
  unfold reprText at hc
  rw [show (Str.cps ⟨_⟩ : Array Nat) = _ from rfl] at hc
  rw [Array.toList_push, ← Array.foldl_toList] at hc
  have gen : ∀ (l : List Nat) (acc : Array Nat), (∀ y ∈ l, y < 0x110000) → (∀ y ∈ acc.toList, y < 0x110000) → ∀ y ∈ (l.foldl (fun out c => out ++ (Builtin.Str.reprChar (reprQuote x) c).toArray) acc).toList, y < 0x110000 := by
    intro l
    induction l with
    | nil => intro acc _ ha; exact ha
    | cons d l ih =>
      intro acc hl ha
      refine ih _ (fun y hy => hl y (List.mem_cons_of_mem _ hy)) fun y hy => ?_
      rw [Array.toList_append] at hy
      exact (List.mem_append.mp hy).elim (ha y) fun hy => okS_char (hl d List.mem_cons_self) y (by simpa using hy)
  rcases List.mem_append.mp hc with hc | hc
  · exact gen _ _ h (fun y hy => by rw [show y = reprQuote x by simpa using hy]; exact q) c hc
  · rw [List.mem_singleton.mp hc]; exact q
mutual
theorem okS_shown : ∀ d : PyData, d.canLay0 = true → okS d.shown
  | .none, _ => okS_of "None"
  | .bool b, _ => by
    cases b
    · exact okS_of "False"
    · exact okS_of "True"
  | .int i, _ => okS_of _
  | .str x, h => okS_reprText (okS_iff.mp (by simpa only [PyData.canLay0] using h))
  | .list xs, h => by
    rw [PyData.shown]
    exact okS_append (okS_textFrom _ _ _ (okS_of _) (okS_shownAll xs (by simpa only [PyData.canLay0] using h))) (okS_of _)
  | .tuple xs, h => by
    rw [PyData.shown]
    exact okS_append (okS_append (okS_of _) (okS_join (okS_of _) _ (okS_shownAll xs (by simpa only [PyData.canLay0] using h)))) (okS_of _)
  | .dict kvs, h => by simp [PyData.canLay0] at h
theorem okS_shownAll : ∀ ds : List PyData, PyData.canLayAll0 ds = true → ∀ t ∈ PyData.shownAll ds, okS t
  | [], _ => fun _ h => by rw [PyData.shownAll] at h; cases h
  | d :: ds, h => fun t ht => by
    have h' : d.canLay0 = true ∧ PyData.canLayAll0 ds = true := by simpa [PyData.canLayAll0] using h
    rw [PyData.shownAll] at ht
    rcases List.mem_cons.mp ht with rfl | ht
    · exact okS_shown d h'.1
    · exact okS_shownAll ds h'.2 t ht
end

mutual
/-- so deep at most, of short numbers -/
def fitD : Nat → D → Bool
  | _, .non => true | _, .bl _ => true | _, .int i => decide (-1000000000000 < i ∧ i < 1000000000000) | _, .str x => PyData.strOk x | _, .pot => false | _, .dic _ _ => false
  | n, .tup xs => match n with | 0 => false | m + 1 => fitL m xs
  | n, .lst _ xs => match n with | 0 => false | m + 1 => fitL m xs
def fitL : Nat → List D → Bool
  | _, [] => true
  | n, d :: ds => fitD n d && fitL n ds
end
mutual
def costD : D → Nat
  | .non => 0 | .bl _ => 0 | .int _ => 41 | .str x => x.cps.size | .pot => 0 | .dic _ _ => 0
  | .tup xs => costL xs
  | .lst _ xs => costL xs
def costL : List D → Nat
  | [] => 0
  | d :: ds => costD d + 1 + costL ds
end
theorem fit_tup {n : Nat} {xs : List D} (h : fitD n (.tup xs) = true) : ∃ m, n = m + 1 ∧ fitL m xs = true := by
  cases n with
  | zero => rw [fitD] at h; cases h
  | succ m => rw [fitD] at h; exact ⟨m, rfl, h⟩
theorem fit_lst {n : Nat} {f : Fl} {xs : List D} (h : fitD n (.lst f xs) = true) : ∃ m, n = m + 1 ∧ fitL m xs = true := by
  cases n with
  | zero => rw [fitD] at h; cases h
  | succ m => rw [fitD] at h; exact ⟨m, rfl, h⟩
theorem fitL_cons {n : Nat} {d : D} {ds : List D} : fitL n (d :: ds) = (fitD n d && fitL n ds) := by rw [fitL]
theorem short_int {i : Int} (h : -1000000000000 < i ∧ i < 1000000000000) : i.natAbs < 1000000000000 := by omega
theorem log_short {n : Nat} (h : n < 1000000000000) : n.log2 < 40 := by
  by_cases e : n = 0
  · subst e; decide
  · exact (Nat.log2_lt e).mpr (Nat.lt_trans h (by decide))
mutual
theorem fit_ok : ∀ (d : D) (n : Nat), fitD n d = true → dok n d = true ∧ (toP d).showable = true ∧ (toP d).intsShort 13 = true ∧ (toP d).weight ≤ costD d := fun a n ha => by
  cases a with
  | pot => rw [fitD] at ha; cases ha
  | dic f kvs => rw [fitD] at ha; cases ha
  | tup xs =>
    obtain ⟨m, rfl, h⟩ := fit_tup ha
    obtain ⟨a, b, c, e⟩ := fitL_ok xs m h
    rw [dok, toP, PyData.showable, PyData.intsShort, PyData.weight, costD]
    exact ⟨a, b, c, e⟩
  | lst f xs =>
    obtain ⟨m, rfl, h⟩ := fit_lst ha
    obtain ⟨a, b, c, e⟩ := fitL_ok xs m h
    rw [dok, toP, PyData.showable, PyData.intsShort, PyData.weight, costD]
    exact ⟨a, b, c, e⟩
  | str x =>
    rw [fitD] at ha
    rw [dok, toP, PyData.showable, PyData.intsShort, PyData.weight, costD]
    exact ⟨ha, rfl, rfl, Nat.le_refl _⟩
  | int i =>
    rw [fitD] at ha
    have h := of_decide_eq_true ha
    have l := log_short (short_int h)
    rw [dok, toP, PyData.showable, PyData.intsShort, PyData.weight, costD]
    refine ⟨rfl, decide_eq_true (by omega), decide_eq_true ?_, ?_⟩
    · exact PyData.shown_int_le (by omega)
    · split <;> omega
  | non =>
    rw [dok, toP, PyData.showable, PyData.intsShort, PyData.weight, costD]
    exact ⟨rfl, rfl, rfl, Nat.le_refl _⟩
  | bl b =>
    rw [dok, toP, PyData.showable, PyData.intsShort, PyData.weight, costD]
    exact ⟨rfl, rfl, rfl, Nat.le_refl _⟩
theorem fitL_ok : ∀ (ds : List D) (n : Nat), fitL n ds = true → dokL n ds = true ∧ PyData.showableAll (toPL ds) = true ∧ PyData.intsShortAll 13 (toPL ds) = true ∧ PyData.weightAll (toPL ds) ≤ costL ds
  | [], n, _ => by
    rw [dokL, toPL, PyData.showableAll, PyData.intsShortAll, PyData.weightAll, costL]
    exact ⟨rfl, rfl, rfl, Nat.le_refl _⟩
  | d :: ds, n, h => by
    rw [fitL_cons, Bool.and_eq_true] at h
    obtain ⟨a1, b1, c1, e1⟩ := fit_ok d n h.1
    obtain ⟨a2, b2, c2, e2⟩ := fitL_ok ds n h.2
    rw [dokL, toPL, PyData.showableAll, PyData.intsShortAll, PyData.weightAll, costL, a1, b1, c1, a2, b2, c2]
    exact ⟨rfl, rfl, rfl, by omega⟩
end
def reprOk (d : D) : Bool := fitD 64 d && decide (costD d ≤ 1048576)
def isSeqD : D → Bool
  | .tup _ => true
  | .lst _ _ => true
  | _ => false
def reprS (d : D) : Str := (toP d).shown
def D.repr (d : D) : T D := if isSeqD d = true ∧ reprOk d = true then .ret (.str (reprS d)) else .fail
theorem reprOk_lay {d : D} (h : reprOk d = true) : dok 64 d = true ∧ (toP d).showable = true ∧ (toP d).hasDict = false ∧ (toP d).depth ≤ 64 ∧ (toP d).shown.length ≤ sizeLine ∧ PyData.strOk (reprS d) = true := by
  unfold reprOk at h
  rw [Bool.and_eq_true, decide_eq_true_eq] at h
  obtain ⟨a, b, c, e⟩ := fit_ok d 64 h.1
  obtain ⟨l1, l2⟩ := lay_toP d 64 a
  refine ⟨a, b, PyData.hasDict_of_canLay _ l1, l2, PyData.shown_fits_of_layable0 (B := 13) (by omega) (by omega) ?_ c, okS_iff.mpr (okS_shown _ l1)⟩
  show (PyData.canLay0 (toP d) && decide ((toP d).depth ≤ 64) && decide ((toP d).weight ≤ 2 ^ 20)) = true
  rw [l1, decide_eq_true l2, decide_eq_true (show (toP d).weight ≤ 2 ^ 20 by omega)]
  rfl
section
variable {K : PySem.W.Frag} {G : Gh} {X : Cx}
def rRepr (K : PySem.W.Frag) : V → Hp → VK → Prop := fun x H Q => ∃ a d, x = .ref a ∧ Dp K H x d ∧ d.showable = true ∧ d.hasDict = false ∧ d.depth ≤ 64 ∧ d.shown.length ≤ sizeLine ∧ Q (.str d.shown) H
theorem cr_repr (hg : X.A.guards = some []) (hu : X.A.units + 65 < cLine) : CallR X (.builtin "repr") fun vs H Q => ∃ v, vs = [v] ∧ rRepr X.K v H Q := by
  intro pins s σ H xs us Q I r h
  obtain ⟨v, rfl, a, d, rfl, hd, hs, hn, hz, hl, q⟩ := h
  obtain ⟨u, rfl, ru⟩ := vals1 r
  obtain rfl : u = Value.ref a := ru
  obtain ⟨as, r1⟩ := Dp.reads I d (.ref a) (.ref a) hd rfl
  exact repr_of_reads' r1 hs (PyData.noDict_hsm hn) hg (by omega) (fun _ _ e => e) (fun h' u tk hk => ⟨.str d.shown, H, I.kept hk, ⟨_, rfl⟩, q⟩) hl
theorem o_repr : Op1 K G (rRepr K) D.repr := by
  intro Z H d1 v1 F1 Q t1 p h
  obtain ⟨c, h⟩ := ite_holds h
  obtain ⟨a, b, e, f, g, k⟩ := reprOk_lay c.2
  have hv : ∃ pa, v1 = .ref pa := by
    cases d1 <;> simp [isSeqD] at c
    · obtain ⟨pa, _, e1, _⟩ := tup_val t1
      exact ⟨pa, e1⟩
    · obtain ⟨pa, _, _, e1, _⟩ := lst_val t1
      exact ⟨pa, e1⟩
  obtain ⟨pa, rfl⟩ := hv
  exact ⟨pa, toP d1, rfl, t1.dp a, b, e, f, g, h Z _ H [] (.sc p rfl)⟩
end
end Dn

set_option Elab.async false
set_option linter.all false
set_option maxRecDepth 100000
namespace Dn
open PySem PySem.Spec PyProof.Rows L2
section
variable {K : PySem.W.Frag} {G : Gh} {X : Cx}
/-! ## zip, enumerate -/
/-- nothing in it is owned: it may be read as frozen -/
theorem RepL.asFrz {Z : Addr → Prop} {H : Hp} : ∀ {ds : List D} {vs : List V}, RepL K (G.zs Z) H .own ds vs [] → RepL K (G.zs Z) H .frz ds vs []
  | [], _, h => by
    obtain ⟨rfl, _⟩ := h.nil_inv
    exact .nil
  | d :: ds, [], h => by have := h.len; simp at this
  | d :: ds, v :: vs, h => by
    obtain ⟨F1, F2, e, h1, h2⟩ := h.uncons
    obtain ⟨rfl, rfl⟩ := List.append_eq_nil_iff.mp e.symm
    refine RepL.cons1 (F1 := []) ?_ (RepL.asFrz h2)
    cases h1 with
    | sc e h => cases h; exact .sc e .nil
    | pot e h => exact .pot e .nil
    | tup e h1 h => exact .tup e h1 .nil
    | @shr m f g p ws xs ds vs F e0 e1 e2 h1 h =>
      have e : f = g := Option.some.inj e0
      subst e
      cases f
      · exact e1.elim
      · exact .shr rfl e1 e2 h1 .nil
      · exact .shr rfl e1 e2 h1 .nil
      · exact e1.elim
    | @dshr m f g p o kvs kws ws ds vs F e0 e1 e2 e3 h1 h =>
      have e : f = g := Option.some.inj e0
      subst e
      cases f
      · exact e1.elim
      · exact .dshr rfl e1 e2 e3 h1 .nil
      · exact .dshr rfl e1 e2 e3 h1 .nil
      · exact e1.elim
theorem Tmp.up {Z Z' : Addr → Prop} {H : Hp} {d : D} {v : V} {F : List Addr} (h : Tmp K G Z H d v F) (l : ∀ p, Z p → Z' p) : Tmp K G Z' H d v F := by
  rcases h with ⟨a, b, h⟩ | ⟨a, h⟩
  · exact .inl ⟨a, b, h.carry l (fun _ z => z) (fun _ _ z => z) (fun _ z => z) (fun _ _ _ e => e) fun _ _ e => e⟩
  · exact .inr ⟨a, h.carry l (fun _ z => z) (fun _ _ z => z) (fun _ z => z) (fun _ _ _ e => e) fun _ _ e => e⟩
def zipD (xs ys : List D) : List D := List.zipWith (fun x y => .tup [x, y]) xs ys
theorem zipD_len (xs ys : List D) : (zipD xs ys).length = min xs.length ys.length := List.length_zipWith
theorem zipD_at {xs ys : List D} {i : Nat} {x y : D} (h : xs[i]? = some x) (h2 : ys[i]? = some y) : (zipD xs ys)[i]? = some (.tup [x, y]) := by
  unfold zipD
  rw [List.getElem?_zipWith, h, h2]
theorem pair_rep {Z : Addr → Prop} {H : Hp} {x y : V} {T : Addr} {o : Obj} {d1 d2 : D} (ho : NewT o) (r1 : RepL K (G.zs Z) H .own [d1] [x] []) (r2 : RepL K (G.zs Z) H .own [d2] [y] []) (hp : ∀ p, G.pot = some p → PotObj (H p)) (hz : ∀ p, Z p → H p ≠ none ∧ some p ≠ G.pot) (n : H T = none) :
    RepL K (G.zs Z) (upd H T (.frz o (.tup [x, y]))) .own [.tup [d1, d2]] [.ref T] [] :=
  .tup (.new ho) ((Go.new hp hz n).repS (RepL.asFrz (RepL.cons1 r1 r2)) fun _ z => nomatch z) .nil
theorem yld_pair {Z : Addr → Prop} {H1 H H' : Hp} {xs ys : List D} {ws us : List V} {i : Nat} {v : V} (r1 : RepL K (G.zs Z) H1 .own xs ws []) (r2 : RepL K (G.zs Z) H1 .own ys us []) (st : Stab K G Z H1 H) (y : YNew (fun i => ws[i]?) (fun i => us[i]?) i H v H') : Yld K G Z (zipD xs ys) i H v H' := by
  obtain ⟨T, o, x, w, rfl, ho, n, rfl, ex, ew⟩ := y
  intro Z2 hz hp hf
  obtain ⟨d1, e1, q1⟩ := (st.rep r1).each ex
  obtain ⟨d2, e2, q2⟩ := (st.rep r2).each ew
  exact ⟨Go.new hp hf n, _, zipD_at e1 e2, pair_rep ho q1 q2 hp (fun p z => hf p (hz p z)) n⟩
theorem yld_pairC {Z : Addr → Prop} {H1 H H' : Hp} {xs ys : List D} {ws us : List V} {i : Nat} {v : V} (r1 : RepL K (G.zs Z) H1 .own xs ws []) (r2 : RepL K (G.zs Z) H1 .own ys us []) (y : YNew (fun i => ws[i]?) (fun i => us[i]?) i H v H') : YldC K G Z H1 (zipD xs ys) i H v H' := by
  obtain ⟨T, o, x, w, rfl, ho, n, rfl, ex, ew⟩ := y
  intro Z2 g
  obtain ⟨d1, e1, q1⟩ := (g.stab.rep r1).each ex
  obtain ⟨d2, e2, q2⟩ := (g.stab.rep r2).each ew
  exact ⟨Go.new g.potB g.zB n, _, zipD_at e1 e2, pair_rep ho q1 q2 g.potB (fun p z => g.zB p (g.zle p z)) n⟩
/-- two things to be walked at once -/
def zipE (c : Bool) (a b : Env → T D) : Env → T (List D) := fun env => (a env).bind fun x => (b env).bind fun y => (srcL c x).bind fun xs => (srcL c y).bind fun ys => .ret (zipD xs ys)
def WalkAt (K : PySem.W.Frag) (G : Gh) (c : Bool) (Z : Addr → Prop) (H : Hp) (a : Addr) (ws : List V) : Prop := H a = some (.lst ws) ∧ (Z a ∨ G.za a ∨ (c = true ∧ some a ≠ G.pot))
def WalkB (K : PySem.W.Frag) (G : Gh) (c : Bool) (Z : Addr → Prop) (H : Hp) (a : Addr) (ws : List V) : Prop := WalkAt K G c Z H a ws ∨ TupX K H a ws
structure TwoOut (K : PySem.W.Frag) (G : Gh) (c : Bool) (Z : Addr → Prop) (H : Hp) (Q : List D → Prop) (vs : List V) (H1 : Hp) : Prop where
  ex : ∃ xs ys Z' a b ws us, Q (zipD xs ys) ∧ vs = [.ref a, .ref b] ∧ Go G Z H Z' H1 ∧ RepL K (G.zs Z') H1 .own xs ws [] ∧ RepL K (G.zs Z') H1 .own ys us [] ∧
    WalkB K G c Z' H1 a ws ∧ WalkB K G c Z' H1 b us
theorem zip_out {c : Bool} {a b : Env → T D} {Z : Addr → Prop} {env : Env} {σ : L2.St} {H : Hp} {Q : List D → Prop} (S : StRel K G Z env σ H) (h : (zipE c a b env).Holds Q) : RdA K G (argsN a (argsN b args0)) σ H fun vs H1 => TwoOut K G c Z H Q vs H1 := by
  refine ⟨Z, env, S, T.bind_holds ((T.holds_bind h).mono fun d1 h => T.bind_holds (T.bind_holds ((T.holds_bind h).mono fun d2 h => ?_)))⟩
  intro Z1 vs H1 F o
  cases o.tmp with
  | @cons _ _ v1 _ F1 _ t1 t2 =>
    cases t2 with
    | @cons _ _ v2 _ F2 _ t2 t3 =>
      cases t3
      have nw := o.new
      rw [List.append_nil] at nw
      have p := Pre.of S o.go nw
      have p1 : Pre K G Z1 H1 F1 := ⟨p.pot, p.zf, fun q hq => p.own q (List.mem_append_left _ hq), (List.nodup_append.mp p.nd).1, p.gr⟩
      obtain ⟨xs, Z2, pa, ws, h, e1, hz1, r1, q1⟩ := srcL_out t1 p1 (T.holds_bind h)
      have k1 := t1.known
      have k2 := t2.known
      have p2 : Pre K G Z2 H1 F2 := ⟨p.pot, fun q z => ((hz1 q).mp z).elim (p.zf q) fun m => ⟨k1 q m, (p1.own q m).2⟩, fun q hq => ⟨fun z => ((hz1 q).mp z).elim (p.own q (List.mem_append_right _ hq)).1 fun m => (List.nodup_append.mp p.nd).2.2 q m q hq rfl, (p.own q (List.mem_append_right _ hq)).2⟩, (List.nodup_append.mp p.nd).2.1, p.gr⟩
      obtain ⟨ys, Z3, pb, us, h, e2, hz2, r2, q2⟩ := srcL_out (t2.up fun q z => (hz1 q).mpr (.inl z)) p2 (T.holds_bind h)
      have le : ∀ q, Z2 q → Z3 q := fun q z => (hz2 q).mpr (.inl z)
      have hz : ∀ q, Z3 q ↔ Z1 q ∨ q ∈ F1 ++ F2 := fun q => by rw [hz2, hz1, List.mem_append, or_assoc]
      refine ⟨xs, ys, Z3, pa, pb, ws, us, h, by rw [e1, e2], o.go.more1 nw (fun q hq => (List.mem_append.mp hq).elim (k1 q) (k2 q)) hz, ?_, r2, ?_⟩
      · exact r1.carry le (fun _ z => z) (fun _ _ z => z) (fun _ z => z) (fun _ _ _ e => e) fun _ _ e => e
      · exact ⟨q1.imp (fun q => ⟨q.1.1, q.1.2.imp (le _) id⟩) And.left, q2.imp And.left And.left⟩
theorem SqB.of_list {H : Hp} {a : Addr} {xs : List V} (h : SqL K H a xs) : SqB K false H a xs := h
theorem SqB.of_tup {H : Hp} {a : Addr} {xs : List V} (h : SqT K H a xs) : SqB K true H a xs := h
theorem walk_zipX {t u : Bool} {a b : Addr} {xs ys : List V} {n : Nat} (hn : n = min xs.length ys.length) : Walk (ItzX K t u a b) n (fun H => SqB K t H a xs ∧ SqB K u H b ys) (YNew (fun i => xs[i]?) (fun i => ys[i]?)) := by
  subst hn
  refine ⟨fun i _ hi q => ?_, fun _ q => ⟨xs, ys, q.1, q.2, rfl⟩, fun i H v H' _ q y => ?_⟩
  · have h1 : i < xs.length := by omega
    have h2 : i < ys.length := by omega
    exact ⟨xs, ys, xs[i], ys[i], q.1, q.2, by simp [h1], by simp [h2]⟩
  · obtain ⟨T, o, x, z, h1, ho, h2, h3, h4, h5⟩ := y
    exact ⟨T, o, x, z, h1, ho, h2, h3, h4 xs q.1, h5 ys q.2⟩
theorem WalkAt.stab {c : Bool} {Z : Addr → Prop} {H H' : Hp} {a : Addr} {ws : List V} (w : WalkAt K G c Z H a ws) (hc : c = false) (st : Stab K G Z H H') : SqL K H' a ws :=
  .of (st.1 a _ (w.2.imp id fun q => q.elim id fun z => by rw [hc] at z; cases z.1) w.1)
theorem WalkAt.go {c : Bool} {Z Z2 : Addr → Prop} {H H' : Hp} {a : Addr} {ws : List V} (w : WalkAt K G c Z H a ws) (hz : ∀ q, Z q → some q ≠ G.pot) (g : Go G Z H Z2 H') : SqL K H' a ws :=
  .of (g.grow.keep a _ (w.2.elim (hz a) fun q => q.elim (fun z => z.2) fun z => z.2) w.1)
theorem WalkB.kind {c : Bool} {Z : Addr → Prop} {H : Hp} {a : Addr} {ws : List V} (w : WalkB K G c Z H a ws) : ∃ t, SqB K t H a ws ∧ (c = false → ∀ H', Stab K G Z H H' → SqB K t H' a ws) ∧ ((∀ q, Z q → some q ≠ G.pot) → ∀ Z2 H', Go G Z H Z2 H' → SqB K t H' a ws) := by
  rcases w with w | w
  · exact ⟨false, .of_list (.of w.1), fun hc H' st => .of_list (w.stab hc st), fun hz Z2 H' g => .of_list (w.go hz g)⟩
  · exact ⟨true, .of_tup w.sq, fun hc H' st => .of_tup (st.2 a _ w).sq, fun hz Z2 H' g => .of_tup (g.sqt w).sq⟩
section
variable {e e2 : Expr} {da db : Env → T D} {p pos tpos : Pos} {elts : List Expr} {kk : Nat}
theorem ei_zip (hg : Gl X "zip") (hm : X.mg "zip" = none) (ha : PA X [e, e2] (RdA X.K G (argsN da (argsN db args0)))) (hs : starEach [e, e2] X.env = (false, eval e X.env) :: starEach [e2] X.env := by rfl) (hpl : (backTo pos (starEach [e2] X.env)).any (·.1) = false := by rfl) :
    PI X (.Tuple elts kk tpos) (.Call (.Name "zip" p) [e, e2] [] pos) (RdI X.K G (zipE false da db)) :=
  PI.imp (pi_zipX hg hm ha hs hpl) fun σ H R h => by
    obtain ⟨Z, env, S, h⟩ := h
    obtain ⟨Z0, env0, S0, q⟩ := zip_out S h
    refine ⟨Z0, env0, S0, q.mono fun ds q Z' vs H' F o => ?_⟩
    obtain ⟨xs, ys, Z2, a, b, ws, us, h, ev, g, r1, r2, w1, w2⟩ := (q Z' vs H' F o).ex
    have l1 := r1.len
    have l2 := r2.len
    obtain ⟨t, k1, k2, _⟩ := w1.kind
    obtain ⟨u, j1, j2, _⟩ := w2.kind
    refine ⟨t, u, a, b, ws, us, ev, k1, j1, h Z2 H' _ ⟨g, ?_⟩⟩
    exact (walk_zipX (by rw [zipD_len, l1, l2])).mono (fun H2 st => ⟨k2 rfl _ st, j2 rfl _ st⟩) fun i H2 x H3 _ st y => yld_pair r1 r2 st y
theorem ei_zipC (hg : Gl X "zip") (hm : X.mg "zip" = none) (ha : PA X [e, e2] (RdA X.K G (argsN da (argsN db args0)))) (hs : starEach [e, e2] X.env = (false, eval e X.env) :: starEach [e2] X.env := by rfl) (hpl : (backTo pos (starEach [e2] X.env)).any (·.1) = false := by rfl) :
    PI X (.Tuple elts kk tpos) (.Call (.Name "zip" p) [e, e2] [] pos) (RdC X.K G (zipE true da db)) :=
  PI.imp (pi_zipX hg hm ha hs hpl) fun σ H R h => by
    obtain ⟨Z, env, S, h⟩ := h
    obtain ⟨Z0, env0, S0, q⟩ := zip_out S h
    refine ⟨Z0, env0, S0, q.mono fun ds q Z' vs H' F o => ?_⟩
    obtain ⟨xs, ys, Z2, a, b, ws, us, h, ev, g, r1, r2, w1, w2⟩ := (q Z' vs H' F o).ex
    have l1 := r1.len
    have l2 := r2.len
    have hz : ∀ q, Z2 q → some q ≠ G.pot := fun q z => (g.zB q z).2
    obtain ⟨t, k1, _, k2⟩ := w1.kind
    obtain ⟨u, j1, _, j2⟩ := w2.kind
    refine ⟨t, u, a, b, ws, us, ev, k1, j1, h Z2 H' _ ⟨g, ?_⟩⟩
    exact (walk_zipX (by rw [zipD_len, l1, l2])).mono (fun H2 ⟨Z3, g3⟩ => ⟨k2 hz _ _ g3, j2 hz _ _ g3⟩) fun i H2 x H3 _ ⟨Z3, g3⟩ y => yld_pairC r1 r2 y
end
/-! enumerate -/
theorem walk_enumX {t : Bool} {a : Addr} {xs : List V} : Walk (ItnX K t a) xs.length (fun H => SqB K t H a xs) (YNew (fun i => some (.int (i : Nat))) (fun i => xs[i]?)) := by
  refine ⟨fun i _ hi q => ⟨xs, xs[i], q, by simp [hi]⟩, fun _ q => ⟨xs, q, rfl⟩, fun i H v H' _ q y => ?_⟩
  obtain ⟨T, o, x, h1, ho, h2, h3, h4⟩ := y
  exact ⟨T, o, .int (i : Nat), x, h1, ho, h2, h3, rfl, h4 xs q⟩
def enD (xs : List D) : List D := zipD (rgD 0 xs.length) xs
theorem enD_len (xs : List D) : (enD xs).length = xs.length := by
  unfold enD
  rw [zipD_len, rgD_len]
  omega
theorem rgV_at {n : Nat} {i : Nat} (h : i < n) : (rgV 0 n)[i]? = some (.int (i : Nat)) := by
  unfold rgV
  rw [List.getElem?_map, List.getElem?_range (by omega)]
  simp
theorem pair_rg {n i : Nat} {f : Nat → Option V} {H : Hp} {v : V} {H' : Hp} (hi : i < n) (y : YNew (fun i => some (.int (i : Nat))) f i H v H') : YNew (fun i => (rgV 0 n)[i]?) f i H v H' := by
  obtain ⟨T, o, x, w, a, ho, b, c, d, e⟩ := y
  exact ⟨T, o, x, w, a, ho, b, c, (rgV_at hi).trans d, e⟩
def enumE (c : Bool) (a : Env → T D) : Env → T (List D) := fun env => (a env).bind fun x => (srcL c x).bind fun xs => if xs.length ≤ 1000000 then .ret (enD xs) else .fail
structure OneOut (K : PySem.W.Frag) (G : Gh) (c : Bool) (Z : Addr → Prop) (H : Hp) (Q : List D → Prop) (vs : List V) (H1 : Hp) : Prop where
  ex : ∃ xs Z' a ws, Q (enD xs) ∧ vs = [.ref a] ∧ Go G Z H Z' H1 ∧ RepL K (G.zs Z') H1 .own xs ws [] ∧ WalkB K G c Z' H1 a ws
theorem enum_out {c : Bool} {a : Env → T D} {Z : Addr → Prop} {env : Env} {σ : L2.St} {H : Hp} {Q : List D → Prop} (S : StRel K G Z env σ H) (h : (enumE c a env).Holds Q) : RdA K G (argsN a args0) σ H fun vs H1 => OneOut K G c Z H Q vs H1 := by
  refine ⟨Z, env, S, T.bind_holds ((T.holds_bind h).mono fun d1 h => ?_)⟩
  intro Z1 vs H1 F o
  cases o.tmp with
  | @cons _ _ v1 _ F1 _ t1 t2 =>
    cases t2
    have nw := o.new
    rw [List.append_nil] at nw
    obtain ⟨xs, Z2, pa, ws, h, e1, hz1, r1, q1⟩ := srcL_out t1 (.of S o.go nw) (T.holds_bind h)
    obtain ⟨_, h⟩ := ite_holds h
    exact ⟨xs, Z2, pa, ws, h, by rw [e1], o.go.more1 nw t1.known hz1, r1, q1.imp And.left And.left⟩
section
variable {e : Expr} {da : Env → T D} {p pos tpos : Pos} {elts : List Expr} {kk : Nat}
theorem ei_enum (hg : Gl X "enumerate") (hm : X.mg "enumerate" = none) (ha : PA X [e] (RdA X.K G (argsN da args0))) (hs : starEach [e] X.env = [(false, eval e X.env)] := by rfl) :
    PI X (.Tuple elts kk tpos) (.Call (.Name "enumerate" p) [e] [] pos) (RdI X.K G (enumE false da)) :=
  PI.imp (pi_enumX hg hm ha hs) fun σ H R h => by
    obtain ⟨Z, env, S, h⟩ := h
    obtain ⟨Z0, env0, S0, q⟩ := enum_out S h
    refine ⟨Z0, env0, S0, q.mono fun ds q Z' vs H' F o => ?_⟩
    obtain ⟨xs, Z2, a, ws, h, ev, g, r1, w⟩ := (q Z' vs H' F o).ex
    have l1 := r1.len
    obtain ⟨t, k1, k2, _⟩ := w.kind
    refine ⟨t, a, ws, ev, k1, h Z2 H' _ ⟨g, ?_⟩⟩
    rw [enD_len, l1]
    exact walk_enumX.mono (fun H2 st => k2 rfl _ st) fun i H2 x H3 hi st y => yld_pair (rep_rg 0 xs.length) r1 st (pair_rg (by omega) y)
theorem ei_enumC (hg : Gl X "enumerate") (hm : X.mg "enumerate" = none) (ha : PA X [e] (RdA X.K G (argsN da args0))) (hs : starEach [e] X.env = [(false, eval e X.env)] := by rfl) :
    PI X (.Tuple elts kk tpos) (.Call (.Name "enumerate" p) [e] [] pos) (RdC X.K G (enumE true da)) :=
  PI.imp (pi_enumX hg hm ha hs) fun σ H R h => by
    obtain ⟨Z, env, S, h⟩ := h
    obtain ⟨Z0, env0, S0, q⟩ := enum_out S h
    refine ⟨Z0, env0, S0, q.mono fun ds q Z' vs H' F o => ?_⟩
    obtain ⟨xs, Z2, a, ws, h, ev, g, r1, w⟩ := (q Z' vs H' F o).ex
    have l1 := r1.len
    have hz : ∀ q, Z2 q → some q ≠ G.pot := fun q z => (g.zB q z).2
    obtain ⟨t, k1, _, k2⟩ := w.kind
    refine ⟨t, a, ws, ev, k1, h Z2 H' _ ⟨g, ?_⟩⟩
    rw [enD_len, l1]
    exact walk_enumX.mono (fun H2 ⟨Z3, g3⟩ => k2 hz _ _ g3) fun i H2 x H3 hi _ y => yld_pairC (rep_rg 0 xs.length) r1 (pair_rg (by omega) y)
end
end
end Dn

set_option Elab.async false
set_option linter.all false
set_option maxRecDepth 100000
namespace Dn
open PySem PySem.Spec PyProof.Rows L2
/-! ## x.index(y) of lists and tuples -/
def IsSq (K : PySem.W.Frag) (t : Bool) (x : V) (H : Hp) : Prop := ∃ p, x = .ref p ∧ (if t = true then ∃ ws, TupX K H p ws else ∃ ws, SqL K H p ws)
def tyN (t : Bool) : String := if t = true then "tuple" else "list"
theorem isSq_is {X : Cx} {pins : List (Addr × Obj)} {σ : L2.St} {H : Hp} {st : Shared} {t : Bool} {x : V} {v : Value} (I : Inv X pins σ H st) (r : L2.RelV x v) (ty : IsSq X.K t x H) :
    st.TypeIs v (tyN t) ∧ ∀ a, v = .ref a → ∃ ob, st.heap.get? a = some ob ∧ ob.dict = none := by
  obtain ⟨p, rfl, h⟩ := ty
  obtain rfl : v = Value.ref p := r
  cases t with
  | true =>
    obtain ⟨ws, h⟩ := h
    rcases h with ⟨o, ho, e⟩ | ⟨o, its, n, e, ho, _⟩
    · obtain ⟨e1, _⟩ := (show ObjOk X.prog X.w H st.heap p (.frz o (.tup ws)) from I.hok p _ e)
      exact ⟨⟨o, e1, ho.1⟩, fun a ea => by cases ea; exact ⟨o, e1, ho.2⟩⟩
    · have e1 := I.kIn _ _ e
      exact ⟨⟨o, e1, ho.1⟩, fun a ea => by cases ea; exact ⟨o, e1, ho.2⟩⟩
  | false =>
    obtain ⟨ws, h⟩ := h
    obtain ⟨its, _, ⟨ob, n, e, c, d, _⟩, _⟩ := I.list h
    exact ⟨⟨ob, e, c⟩, fun a ea => by cases ea; exact ⟨ob, e, d⟩⟩
/-- the first place of an equal one -/
def rIdx (K : PySem.W.Frag) (t : Bool) : V → List V → Hp → VK → Prop := fun x xs H Q => ∃ (a : Addr) (y : V) (d : PyData) (ds : List PyData) (j : Nat) (z : PyData), x = V.ref a ∧ xs = [y] ∧ Dp K H (V.ref a) (if t = true then .tuple ds else .list ds) ∧ Dp K H y d ∧
  SeqAt.shaped (.list ds) = true ∧ SeqAt.shaped d = true ∧ ds[j]? = some z ∧ PyData.eqv z d = true ∧ (∀ (m : Nat) (z' : PyData), m < j → ds[m]? = some z' → PyData.eqv z' d = false) ∧ Q (.int (j : Nat)) H
def idxN (t : Bool) : String := if t = true then "tuple.index" else "list.index"
theorem mt_idx {X : Cx} (hu : X.A.units + 65 < cLine) (t : Bool) : MtR X (idxN t) (rIdx X.K t) := by
  cases t with
  | false => exact mt_indexD hu
  | true =>
    intro pins st σ H x xs v us Q I rx rxs h
    obtain ⟨a, y, d, ds, j, z, rfl, rfl, hl, hy, sl, sd, hz, hzj, hno, q⟩ := h
    obtain ⟨uy, rfl, ry⟩ := vals1 rxs
    obtain rfl : v = Value.ref a := rx
    obtain ⟨bs, r1⟩ := Dp.reads I d y uy hy ry
    have lay : PyData.canLayAll0 ds = true := SeqAt.canLay_of_shaped sl
    have room : X.A.units + 1 + min (PyData.depthAll ds) d.depth < cLine := room_in_shaped sd hu
    cases hl with
    | tup hs ha =>
      obtain ⟨its, rv, ⟨⟨cls, dd, data, sls⟩, ho, hc, n, hdt⟩, _⟩ := I.tuple hs
      simp only at hc hdt
      subst hc hdt
      obtain ⟨as, h4⟩ := Dp.readsAll I ds _ its ha rv
      have hn : its.length = ds.length := SeqAt.ReadsAll.length ds its as h4
      have hmap : its.map (SeqAt.readOf st.heap) = ds := SeqAt.readsAll_map ds its as lay h4
      have hjd : j < ds.length := (List.getElem?_eq_some_iff.mp hz).1
      have hj : j < its.toArray.size := by rw [List.size_toArray, hn]; exact hjd
      have rd : ∀ (m : Nat) (hm : m < its.toArray.size) (w : PyData), ds[m]? = some w → SeqAt.readOf st.heap its.toArray[m] = w := by
        intro m hm w hw
        have hml : m < its.length := by simpa using hm
        rw [← hmap, List.getElem?_map, List.getElem?_eq_getElem hml] at hw
        have := Option.some.inj (show some (SeqAt.readOf st.heap its[m]) = some w from hw)
        simpa using this
      exact call_meets F.slot_tuple_index ⟨_, ho, rfl⟩ F.entry_tuple_index (F.args_tuple_index_2 _ _)
        (TI.tuple_indexAt a its.toArray n dd sls uy (fun u => PyData.eqv (SeqAt.readOf st.heap u) d) j hj (by rw [rd j hj z hz]; exact hzj) fun m hm hmj => by
          have hmd : m < ds.length := Nat.lt_trans hmj hjd
          rw [rd m hm ds[m] (List.getElem?_eq_getElem hmd)]
          exact hno m _ hmj (List.getElem?_eq_getElem hmd))
        ⟨ho, SeqAt.items_eqAt (vs := its.toArray) (show ReadsAll st.heap its.toArray.toList ds as from h4) r1 lay (SeqAt.canLay_of_shaped sd) room, ⟨.int (j : Nat), H, I.tok _, ⟨_, rfl⟩, q⟩⟩
section
variable {X : Cx} {o e : Expr} {to : TE} {ta : TA} {apos cpos : Pos}
theorem pe_idx (hu : X.A.units + 65 < cLine) (ho : PE X o to) (ha : PA X [e] ta)
    (h1 : attributeBase o "index" X.env (eval o X.env) = eval o X.env := by rfl)
    (h2 : ((backTo cpos (starEach [e] X.env)).all (fun x => !x.1) && (backToKw cpos (keywordEach [] X.env)).all (fun x => x.1.isSome) && decide ([e].length + ([] : List Keyword).length + (if ([] : List Keyword).isEmpty then 0 else 1) < 30)) = true := by rfl)
    (h3 : (apos.endLine == cpos.line) = true := by rfl) (h4 : starEach [e] X.env = (false, eval e X.env) :: starEach [] X.env := by rfl) (h5 : (backTo cpos (starEach [] X.env)).any (·.1) = false := by rfl) :
    PE X (.Call (.Attribute o "index" apos) [e] [] cpos) (fun σ H Q => to σ H fun x H1 => ∃ t, IsSq X.K t x H1 ∧ ta σ H1 fun xs H2 => rIdx X.K t x xs H2 Q) := by
  refine ⟨fun pins st σ H Q I h => ?_⟩
  refine wpAny_Call_method_late h1 h2 h3 rfl (thn (ho.run pins st σ H _ I h) fun v s1 ⟨x, H1, I1, r1, t, ty, q1⟩ => ?_)
  obtain ⟨k1, k2⟩ := isSq_is I1 r1 ty
  have hA := ha.run cpos pins s1 σ H1 _ I1 q1
  have last : wpAny (model X.prog X.w) X.A (callWith cpos (.builtin (idxN t)) [v] (backTo cpos (starEach [e] X.env)) []) (EP X pins σ Q) X.xe s1 := by
    rw [h4] at hA ⊢
    refine Calls.callWith_builtin (by show (false || (backTo cpos (starEach [] X.env)).any (·.1)) = false; rw [h5] <;> rfl) (Calls.evalArgs_plain ?_)
    exact thn hA fun us s2 ⟨vs, H2, I2, r2, q2⟩ => mt_idx hu t pins s2 σ H2 x vs v us Q I2 r1 r2 q2
  cases t with
  | true => exact ⟨"tuple", "tuple.index", F.plainAttrs_tuple, F.slot_tuple_index, F.type_tuple_index, k1, k2, last⟩
  | false => exact ⟨"list", "list.index", F.plainAttrs_list, F.slot_list_index, F.type_list_index, k1, k2, last⟩
end
section
variable {K : PySem.W.Frag} {G : Gh} {X : Cx}
def firstD (xs : List D) (d : D) : Option Nat := xs.findIdx? fun x => D.eqv x d
def idxD (d : D) (xs : List D) : T D := if dok 64 d ∧ dokL 63 xs then (T.ofO (firstD xs d)).bind fun j => .ret (.int (j : Nat)) else .fail
def idxE (a b : Env → T D) : Env → T D := fun env => (a env).bind fun x => match x with
  | .lst _ xs => (b env).bind fun d => idxD d xs
  | .tup xs => (b env).bind fun d => idxD d xs
  | _ => .fail
theorem toPL_at {xs : List D} {j : Nat} {z : PyData} (h : (toPL xs)[j]? = some z) : ∃ x, xs[j]? = some x ∧ z = toP x := by
  rw [toPL_eq, List.getElem?_map] at h
  obtain ⟨x, a, b⟩ := Option.map_eq_some_iff.mp h
  exact ⟨x, a, b.symm⟩
theorem idx_facts {d : D} {xs : List D} {Q : D → Prop} (h : (idxD d xs).Holds Q) : dok 64 d = true ∧ dokL 63 xs = true ∧ ∃ j z, (toPL xs)[j]? = some z ∧ PyData.eqv z (toP d) = true ∧ (∀ m z', m < j → (toPL xs)[m]? = some z' → PyData.eqv z' (toP d) = false) ∧ Q (.int (j : Nat)) := by
  obtain ⟨c, h⟩ := ite_holds h
  obtain ⟨j, ej, h⟩ := mat_o h
  refine ⟨c.1, c.2, j, ?_⟩
  unfold firstD at ej
  obtain ⟨hj, e1, e2⟩ := List.findIdx?_eq_some_iff_getElem.mp ej
  have dk : ∀ x ∈ xs, dok 63 x = true := by
    have : ∀ ys : List D, dokL 63 ys = true → ∀ x ∈ ys, dok 63 x = true := by
      intro ys
      induction ys with
      | nil => intro _ x hx; cases hx
      | cons y ys ih =>
        intro h x hx
        rw [dokL_cons, Bool.and_eq_true] at h
        rcases List.mem_cons.mp hx with rfl | hx
        · exact h.1
        · exact ih h.2 x hx
    exact this xs c.2
  refine ⟨toP xs[j], by rw [toPL_eq, List.getElem?_map, List.getElem?_eq_getElem hj]; rfl, ?_, fun m z' hm hz => ?_, h⟩
  · rw [eqv_toP xs[j] d 63 64 (dk _ (List.getElem_mem hj)) c.1]
    exact e1
  · obtain ⟨x, hx, rfl⟩ := toPL_at hz
    obtain ⟨hml, rfl⟩ := List.getElem?_eq_some_iff.mp hx
    rw [eqv_toP _ d 63 64 (dk _ (List.getElem_mem hml)) c.1]
    have := e2 m hm
    simpa using this
theorem ee_idx {o e : Expr} {dob de : Env → T D} {apos cpos : Pos} (hu : X.A.units + 65 < cLine) (ho : PE X o (RdE X.K G dob)) (ha : PA X [e] (RdA X.K G (argsN de args0)))
    (h1 : attributeBase o "index" X.env (eval o X.env) = eval o X.env := by rfl)
    (h2 : ((backTo cpos (starEach [e] X.env)).all (fun x => !x.1) && (backToKw cpos (keywordEach [] X.env)).all (fun x => x.1.isSome) && decide ([e].length + ([] : List Keyword).length + (if ([] : List Keyword).isEmpty then 0 else 1) < 30)) = true := by rfl)
    (h3 : (apos.endLine == cpos.line) = true := by rfl) (h4 : starEach [e] X.env = (false, eval e X.env) :: starEach [] X.env := by rfl) (h5 : (backTo cpos (starEach [] X.env)).any (·.1) = false := by rfl) :
    PE X (.Call (.Attribute o "index" apos) [e] [] cpos) (RdE X.K G (idxE dob de)) :=
  PE.imp (pe_idx hu ho ha h1 h2 h3 h4 h5) fun σ H Q h => by
    obtain ⟨Z, env, S, h⟩ := h
    refine ⟨Z, env, S, (T.holds_bind h).mono fun d1 h Z1 v1 H1 F1 e1 => ?_⟩
    have key : ∀ t (a : Addr) (xs : List D), v1 = .ref a → IsSq X.K t v1 H1 → (∀ Z2 H2, Go G Z1 H1 Z2 H2 → Tmp X.K G Z2 H2 d1 v1 F1 → dokL 63 xs = true → Dp X.K H2 (.ref a) (if t = true then .tuple (toPL xs) else .list (toPL xs))) →
        ((de env).Holds fun d2 => (idxD d2 xs).Holds fun d => ∀ Z' v H' F, ExOut X.K G Z H d Z' v H' F → Q v H') → ∃ t, IsSq X.K t v1 H1 ∧ RdA X.K G (argsN de args0) σ H1 fun ws H2 => rIdx X.K t v1 ws H2 Q := by
      intro t a xs ev sq hd h
      refine ⟨t, sq, Z1, env, S.go e1.go, T.bind_holds (h.mono fun d2 h => ?_)⟩
      intro Z2 ws H2 F2 o
      obtain ⟨k1, k2, j, z, hz, hzj, hno, h⟩ := idx_facts h
      cases o.tmp with
      | cons t1 t2 =>
        cases t2
        have tt := e1.tmp.go o.go fun p hp => (e1.new.new p hp).2.2
        exact ⟨a, _, _, _, j, z, ev, rfl, hd Z2 H2 o.go tt k2, t1.dp k1, dokL_shaped k2, shaped_toP k1, hz, hzj, hno, h Z2 _ H2 [] ⟨e1.go.trans o.go, tmp_sc rfl, .nil⟩⟩
    cases d1 with
    | tup xs =>
      obtain ⟨a, ws, ev, s1, _⟩ := tup_val e1.tmp
      refine key true a xs ev ⟨a, ev, ws, s1⟩ (fun Z2 H2 g tt k => ?_) (T.holds_bind h)
      have q := tt.dp (by rw [dok]; exact k)
      rw [toP, ev] at q
      exact q
    | lst f xs =>
      obtain ⟨a, ws, _, ev, s1, _⟩ := lst_val e1.tmp
      refine key false a xs ev ⟨a, ev, ws, .of s1⟩ (fun Z2 H2 g tt k => ?_) (T.holds_bind h)
      have q := tt.dp (by rw [dok]; exact k)
      rw [toP, ev] at q
      exact q
    | _ => exact h.elim
end
end Dn

set_option Elab.async false
set_option linter.all false
set_option maxRecDepth 100000
namespace Dn
open PySem PySem.W PySem.Spec PyProof.Rows L2
/-! ## sorted(x) of a list of tuples of ints, of any lengths -/
/-- v is a tuple of these ints -/
def TI (h : Heap) (v : Value) (ns : List Int) : Prop := ∃ (a : Addr) (o : Obj) (its : List Value) (n : Nat), v = .ref a ∧ h.get? a = some o ∧ o.cls = .type "tuple" ∧ o.data = .seq its.toArray n ∧ IntsAre its ns
theorem TI.keeps {h h' : Heap} {v : Value} {ns : List Int} (t : TI h v ns) (k : ∀ b o, h.get? b = some o → o.cls = .type "tuple" → h'.get? b = some o) : TI h' v ns := by
  obtain ⟨a, o, its, n, e, e1, c, d, i⟩ := t
  exact ⟨a, o, its, n, e, k _ _ e1 c, c, d, i⟩
theorem lex_irr : ∀ xs : List Int, HT.lexLt xs xs = false
  | [] => rfl
  | x :: xs => by rw [HT.lexLt_cons, if_pos rfl]; exact lex_irr xs
theorem lex_asym : ∀ xs ys : List Int, HT.lexLt xs ys = true → HT.lexLt ys xs = false
  | [], [], _ => rfl
  | [], _ :: _, _ => rfl
  | _ :: _, [], h => by cases h
  | x :: xs, y :: ys, h => by
    rw [HT.lexLt_cons] at h ⊢
    by_cases e : x = y
    · rw [if_pos e] at h
      rw [if_pos e.symm]
      exact lex_asym xs ys h
    · rw [if_neg e, decide_eq_true_eq] at h
      rw [if_neg (Ne.symm e), decide_eq_false_iff_not]
      omega
theorem lex_tr : ∀ xs ys zs : List Int, HT.lexLt ys xs = false → HT.lexLt zs ys = false → HT.lexLt zs xs = false
  | _, _, [], h1, h2 => by
    rename_i xs ys
    cases ys with
    | nil =>
      cases xs with
      | nil => rfl
      | cons _ _ => cases h1
    | cons _ _ => cases h2
  | [], _, _ :: _, _, _ => rfl
  | x :: xs, [], z :: zs, h1, h2 => by cases h1
  | x :: xs, y :: ys, z :: zs, h1, h2 => by
    rw [HT.lexLt_cons] at h1 h2 ⊢
    by_cases e1 : y = x <;> by_cases e2 : z = y
    · subst e1 e2
      rw [if_pos rfl] at h1 h2 ⊢
      exact lex_tr xs ys zs h1 h2
    · subst e1
      rw [if_neg e2] at h2 ⊢
      exact h2
    · subst e2
      rw [if_neg e1] at h1 ⊢
      exact h1
    · rw [if_neg e1, decide_eq_false_iff_not] at h1
      rw [if_neg e2, decide_eq_false_iff_not] at h2
      rw [if_neg (by omega), decide_eq_false_iff_not]
      omega
theorem swo_tups (k : Value → List Int) : SrtO.Swo fun v u => HT.lexLt (k v) (k u) := ⟨fun x y h => lex_asym _ _ h, fun x y z h1 h2 => lex_tr _ _ _ h1 h2⟩
section
variable {prog : Program} {w : World} {A : Around} {E : Value → Shared → Prop} {s : Shared}
theorem kat_ints {b : Bool} {Q : Bool → Shared → Prop} : ∀ {xs ys : List Value} {ns ms : List Int} (i : Nat), IntsAre xs ns → IntsAre ys ms → Q (HT.lexLt ns ms) s → PySem.W.KatLex prog w A b (decide (ns.length < ms.length)) Q (xs.zip ys) i s
  | [], ys, _, ms, i, .nil, hy, h => by
    cases hy with
    | nil => exact PySem.W.kat_nil h
    | cons _ _ _ => exact PySem.W.kat_nil h
  | _ :: _, [], _, _, i, .cons _ _ _, .nil, h => PySem.W.kat_nil (by simpa [HT.lexLt] using h)
  | _ :: xs, _ :: ys, x :: ns, y :: ms, i, .cons _ t hx, .cons _ u hy, h => by
    rw [List.zip_cons_cons]
    refine PySem.W.kat_cons (SeqAt.EqAt.int_int x t y u prog w _ _ ?_)
    refine PySem.W.kat_go (fun e => ?_) (fun e => ?_)
    · have ex : x = y := by simpa using e
      subst ex
      rw [HT.lexLt_cons, if_pos rfl] at h
      rw [show (decide ((x :: ns).length < (x :: ms).length)) = decide (ns.length < ms.length) by simp]
      exact PySem.W.kat_yes (kat_ints (i + 1) hx hy h)
    · have ex : ¬ x = y := by simpa using e
      rw [HT.lexLt_cons, if_neg ex] at h
      exact PySem.W.kat_no (TS.oneLt_ints _ h)
theorem ints_len {vs : List Value} {ns : List Int} (h : IntsAre vs ns) : vs.length = ns.length := IntsAre.length h
theorem ti_cmpT {vs : List Value} {k : Value → List Int} (hv : ∀ v ∈ vs, TI s.heap v (k v)) : SrtO.Cmp prog w A s (tuples' true) (fun p => p.1 ∈ vs) (SrtO.lt2 fun v u => HT.lexLt (k v) (k u)) := by
  intro p q hm hm'
  obtain ⟨a, o, its, n, e, e1, c, d, i⟩ := hv _ hm
  obtain ⟨a', o', its', n', e', e1', c', d', i'⟩ := hv _ hm'
  show wpAny (model prog w) A (keyLt' (tuples' true) p.1 q.1) (fun r s' => s' = s ∧ r = HT.lexLt (k p.1) (k q.1)) (fun _ _ => False) s
  generalize k p.1 = ns at i ⊢
  generalize k q.1 = ms at i' ⊢
  rw [e, e']
  refine PySem.W.kat_lt e1 d e1' d' ?_
  rw [List.size_toArray, List.size_toArray, ints_len i, ints_len i']
  exact kat_ints 0 i i' ⟨rfl, rfl⟩
theorem ti_lt {v u : Value} {ns ms : List Int} {Q : Value → Shared → Prop} (hu : A.units < cLine) (h1 : TI s.heap v ns) (h2 : TI s.heap u ms) (h : Q (.bool (HT.lexLt ns ms)) s) : wpAny (model prog w) A (compareOp .Lt v u) Q E s := by
  obtain ⟨a, o, its, n, rfl, e1, c, d, i⟩ := h1
  obtain ⟨a', o', its', n', rfl, e1', c', d', i'⟩ := h2
  exact HT.lt_tupInts ⟨o, e1, c, n, d⟩ ⟨o', e1', c', n', d'⟩ (by simpa using i) (by simpa using i') hu h
theorem ti_cmpG {vs : List Value} {k : Value → List Int} (hu : A.units < cLine) (hv : ∀ v ∈ vs, TI s.heap v (k v)) : SrtO.Cmp prog w A s general' (fun p => p.1 ∈ vs) (SrtO.lt2 fun v u => HT.lexLt (k v) (k u)) := by
  intro p q hm hm'
  show wpAny (model prog w) A (oneLt' false p.1 q.1) (fun r s' => s' = s ∧ r = HT.lexLt (k p.1) (k q.1)) (fun _ _ => False) s
  exact PySem.W.kat_one _ _ (ti_lt hu (hv _ hm) (hv _ hm') ⟨rfl, rfl⟩)
theorem ti_cmpO {vs : List Value} {k : Value → List Int} (hu : A.units + 1 < cLine) (hv : ∀ v ∈ vs, TI s.heap v (k v)) : SrtO.Cmp prog w A s oneType' (fun p => p.1 ∈ vs) (SrtO.lt2 fun v u => HT.lexLt (k v) (k u)) := by
  intro p q hm hm'
  obtain ⟨a, o, its, n, e, e1, c, d, i⟩ := hv _ hm
  obtain ⟨a', o', its', n', e', e1', c', d', i'⟩ := hv _ hm'
  show wpAny (model prog w) A (oneLt' true p.1 q.1) (fun r s' => s' = s ∧ r = HT.lexLt (k p.1) (k q.1)) (fun _ _ => False) s
  generalize k p.1 = ns at i ⊢
  generalize k q.1 = ms at i' ⊢
  rw [e, e', oneLt'_eq]
  simp only [if_true]
  refine wpAny_bind (wpAny_cRoomFor (by omega) ?_)
  have hT : s.TypeIs (.ref a) "tuple" := ⟨o, e1, c⟩
  obtain ⟨cls, dd, data, sl⟩ := o
  obtain ⟨cls', dd', data', sl'⟩ := o'
  simp only at c d c' d'
  subst c d c' d'
  refine wpAny_bind (wpAny_callSpecialIfBound?_slot hT F.slot_tuple_lt ?_)
  refine call_meets F.slot_tuple_lt hT F.entry_tuple_lt (F.args_tuple_lt_2 _ _) (HT.tuple_lt_ints a a' its.toArray its'.toArray n n' dd dd' sl sl' ns ms (by simpa using i) (by simpa using i')) ?_
  exact ⟨e1, e1', wpAny_truthy_bool ⟨rfl, rfl⟩⟩
/-- the tuples' firsts, where there are any -/
theorem ti_firsts {M : Model} : ∀ (vs : List Value) (k : Value → List Int) {Q : List (Option Value) → Shared → Prop}, (∀ v ∈ vs, TI s.heap v (k v)) →
    (∀ fs : List (Option Value), fs.length = vs.length → (∀ (i : Nat) (v : Value), vs[i]? = some v → ∃ f, fs[i]? = some f ∧ (f.isSome = true ↔ k v ≠ []) ∧ ∀ u, f = some u → ∃ x t, u = Value.int x t) → Q fs s) → wpAny M A (vs.mapM firstOfTuple') Q E s
  | [], _, _, _, h => by rw [List.mapM_nil]; exact wpAny_pure (h [] rfl fun i v e => by simp at e)
  | v :: vs, k, Q, t, h => by
    obtain ⟨a, o, its, n, rfl, e1, c, d, i⟩ := t v List.mem_cons_self
    rw [List.mapM_cons]
    refine wpAny_bind ?_
    rw [PySem.W.kas_first_eq]
    refine wpAny_bind (Looks.here (show Looks M s.heap (typeOf (.ref a)) o.cls from (Looks.ld e1).andThen .now) ?_)
    rw [c, if_neg (by simp)]
    refine wpAny_bind (listItems_at e1 d (wpAny_pure ?_))
    refine wpAny_bind (ti_firsts vs k (Q := fun bs s' => wpAny M A (pure (its.toArray[0]? :: bs)) Q E s') (fun u hu => t u (List.mem_cons_of_mem _ hu)) fun fs hl hf => wpAny_pure (h _ (by simp [hl]) fun j u ej => ?_))
    cases j with
    | succ j => exact hf j u (by simpa using ej)
    | zero =>
      cases (show Value.ref a = u by simpa using ej)
      refine ⟨its.toArray[0]?, rfl, ?_, fun u eu => ?_⟩
      · generalize k (Value.ref a) = ns at i ⊢
        cases i with
        | nil => simp
        | cons _ _ _ => simp
      · generalize k (Value.ref a) = ns at i ⊢
        cases i with
        | nil => simp at eu
        | cons x t _ => exact ⟨x, t, by simpa using eu.symm⟩
def tiKind (vs : List Value) (k : Value → List Int) : SortKind := if (vs.all fun v => !(k v).isEmpty) = true then tuples' true else if (vs.head?.all fun v => !(k v).isEmpty) = true then general' else oneType'
theorem ti_kind {M : Model} {vs : List Value} {k : Value → List Int} {Q : SortKind → Shared → Prop} (h0 : 2 ≤ vs.length) (hv : ∀ v ∈ vs, TI s.heap v (k v)) (h : Q (tiKind vs k) s) : wpAny M A (keyKind' vs.toArray) Q E s := by
  rw [PyProof.Rows.kat_kind_eq, List.mapM_toArray, map_eq_pure_bind]
  refine wpAny_bind (wpAny_bind (ti_firsts vs k hv fun fs hl hf => wpAny_pure ?_))
  have hall : (fs.toArray.all fun x => x.isSome) = (vs.all fun v => !(k v).isEmpty) := by
    rw [Bool.eq_iff_iff]
    simp only [List.all_toArray, List.all_eq_true, Bool.not_eq_true', List.isEmpty_eq_false_iff]
    constructor
    · intro a v hm
      obtain ⟨i, hi, e⟩ := List.mem_iff_getElem.mp hm
      obtain ⟨f, e', b, _⟩ := hf i v (by rw [List.getElem?_eq_getElem hi, e])
      exact b.mp (a f (List.mem_of_getElem? e'))
    · intro a f hm
      obtain ⟨i, hi, e⟩ := List.mem_iff_getElem.mp hm
      have hi' : i < vs.length := by omega
      obtain ⟨f', e', b, _⟩ := hf i vs[i] (List.getElem?_eq_getElem hi')
      rw [List.getElem?_eq_getElem hi, e] at e'
      cases e'
      exact b.mpr (a _ (List.getElem_mem hi'))
  obtain ⟨v0, vr, ev⟩ : ∃ v0 vr, vs = v0 :: vr := by
    match vs, h0 with
    | v0 :: vr, _ => exact ⟨v0, vr, rfl⟩
  obtain ⟨f0, ef0, bf0, xf0⟩ := hf 0 v0 (by rw [ev]; rfl)
  unfold tiKind at h
  rw [← hall] at h
  by_cases ha : (fs.toArray.all fun x => x.isSome) = true
  · rw [if_pos ha] at h ⊢
    refine wpAny_bind (wpAny_rule ?_)
    have hfs : ∀ u ∈ fs.filterMap id, ∃ x t, u = Value.int x t := by
      intro u hu
      simp only [List.mem_filterMap, id] at hu
      obtain ⟨f, hm, rfl⟩ := hu
      obtain ⟨i, hi, e⟩ := List.mem_iff_getElem.mp hm
      obtain ⟨f', e', _, hx⟩ := hf i (vs[i]'(by omega)) (by simp)
      rw [List.getElem?_eq_getElem hi, e] at e'
      exact hx u (Option.some.inj e').symm
    obtain ⟨fr, efs⟩ : ∃ fr, fs = f0 :: fr := by
      cases fs with
      | nil => cases ef0
      | cons f fr => cases ef0; exact ⟨fr, rfl⟩
    have hs0 : f0.isSome = true := by
      rw [efs] at ha
      simp at ha
      exact ha.1
    obtain ⟨u0, rfl⟩ := Option.isSome_iff_exists.mp hs0
    have hcons : fs.filterMap id = u0 :: fr.filterMap id := by rw [efs]; rfl
    rw [List.filterMap_toArray, hcons]
    rw [hcons] at hfs
    generalize fr.filterMap id = ur at hfs
    rw [oneTypeOnly'_eq, List.mapM_toArray, map_eq_pure_bind]
    refine wpAny_bind (wpAny_bind (wpAny_bind (PySem.W.kas_mapM (r := Value.type "int") _ (fun v hv Q' hq => ?_) (wpAny_pure ?_))))
    · obtain ⟨x, t, rfl⟩ := hfs v hv
      exact Looks.here (show Looks M s.heap (typeOf (Value.int x t)) (Value.type "int") from Looks.now) hq
    · have h1 : ((List.map (fun _ => Value.type "int") (u0 :: ur)).toArray.all fun x => x == Value.type "int") = true := by
        simp only [List.all_toArray, List.all_map, List.all_eq_true]
        intro _ _
        rfl
      have h2 : (List.map (fun _ => Value.type "int") (u0 :: ur)).toArray[0]? = some (Value.type "int") := by simp
      rw [h2]
      simp only [h1, if_true]
      exact wpAny_pure (wpAny_pure h)
  · rw [if_neg ha] at h ⊢
    have e0 : (fs.toArray[0]?.bind id).isSome = (vs.head?.all fun v => !(k v).isEmpty) := by
      have : fs.toArray[0]? = some f0 := by simpa using ef0
      rw [this, ev, Bool.eq_iff_iff]
      simp [bf0]
    rw [← e0] at h
    by_cases hb : (fs.toArray[0]?.bind id).isSome = true
    · rw [if_pos hb] at h ⊢
      exact wpAny_pure h
    · rw [if_neg hb] at h ⊢
      rw [oneTypeOnly'_eq, List.mapM_toArray, map_eq_pure_bind]
      refine wpAny_bind (wpAny_bind (wpAny_bind (PySem.W.kas_mapM (r := Value.type "tuple") _ (fun v hm Q' hq => ?_) (wpAny_pure ?_))))
      · obtain ⟨a, o, its, n, rfl, e1, c, d, i⟩ := hv v hm
        exact Looks.here (show Looks M s.heap (typeOf (.ref a)) (Value.type "tuple") from by rw [← c]; exact (Looks.ld e1).andThen .now) hq
      · have h1 : ((List.map (fun _ => Value.type "tuple") vs).toArray.all fun x => x == Value.type "tuple") = true := by
          simp only [List.all_toArray, List.all_map, List.all_eq_true]
          intro _ _
          rfl
        have h2 : (List.map (fun _ => Value.type "tuple") vs).toArray[0]? = some (Value.type "tuple") := by rw [ev]; simp
        rw [h2]
        simp only [h1, if_true]
        refine wpAny_pure ?_
        simp only [Option.isSome_some, if_true]
        exact wpAny_pure h
theorem ti_cmp {vs : List Value} {k : Value → List Int} (hu : A.units + 1 < cLine) (hv : ∀ v ∈ vs, TI s.heap v (k v)) : SrtO.Cmp prog w A s (tiKind vs k) (fun p => p.1 ∈ vs) (SrtO.lt2 fun v u => HT.lexLt (k v) (k u)) := by
  unfold tiKind
  split
  · exact ti_cmpT hv
  · split
    · exact ti_cmpG (by omega) hv
    · exact ti_cmpO hu hv
theorem ti_sortable {a : Addr} {vs : List Value} {k : Value → List Int} (hu : A.units + 1 < cLine) (h0 : 2 ≤ vs.length) (hv : ∀ v ∈ vs, TI s.heap v (k v)) (ha : ∀ o, s.heap.get? a = some o → o.cls ≠ .type "tuple") : SrtO.SortableO prog w A s a vs fun v u => HT.lexLt (k v) (k u) := by
  intro h' keep
  have hv' : ∀ v ∈ vs, TI h' v (k v) := fun v hm => (hv v hm).keeps fun b o e c => keep b o (fun z => by subst z; exact ha o e c) e
  exact ⟨tiKind vs k, fun Q E hq => ti_kind (s := { s with heap := h' }) h0 hv' hq, ti_cmp (s := { s with heap := h' }) hu hv'⟩
end
end Dn

set_option Elab.async false
set_option linter.all false
set_option maxRecDepth 100000
namespace Dn
open PySem PySem.Spec PyProof.Rows L2
/-! ## insertion, as a function -/
def insB {α : Type} (lt : α → α → Bool) (x : α) : List α → List α
  | [] => [x]
  | y :: ys => if lt y x = true then y :: insB lt x ys else x :: y :: ys
def isort {α : Type} (lt : α → α → Bool) : List α → List α
  | [] => []
  | x :: xs => insB lt x (isort lt xs)
section
variable {α : Type} {lt : α → α → Bool}
theorem insB_perm (x : α) : ∀ ys : List α, (insB lt x ys).Perm (x :: ys)
  | [] => List.Perm.refl _
  | y :: ys => by
    unfold insB
    split
    · exact ((insB_perm x ys).cons y).trans (List.Perm.swap x y ys)
    · exact List.Perm.refl _
theorem isort_perm : ∀ xs : List α, (isort lt xs).Perm xs
  | [] => List.Perm.refl _
  | x :: xs => (insB_perm x _).trans ((isort_perm xs).cons x)
theorem insB_srtd (O : SrtO.Swo lt) (x : α) : ∀ ys : List α, SrtO.Srtd lt ys → SrtO.Srtd lt (insB lt x ys)
  | [], _ => List.pairwise_singleton _ _
  | y :: ys, h => by
    unfold insB
    have hy := List.pairwise_cons.mp h
    split
    · rename_i c
      refine List.pairwise_cons.mpr ⟨fun z hz => ?_, insB_srtd O x ys hy.2⟩
      rcases List.mem_cons.mp ((insB_perm x ys).mem_iff.mp hz) with e | hz
      · rw [e]; exact O.asym _ _ c
      · exact hy.1 z hz
    · rename_i c
      have c' : lt y x = false := by simpa using c
      refine List.pairwise_cons.mpr ⟨fun z hz => ?_, h⟩
      rcases List.mem_cons.mp hz with e | hz
      · rw [e]; exact c'
      · exact O.tr x y z c' (hy.1 z hz)
theorem isort_srtd (O : SrtO.Swo lt) : ∀ xs : List α, SrtO.Srtd lt (isort lt xs)
  | [] => List.Pairwise.nil
  | x :: xs => insB_srtd O x _ (isort_srtd O xs)
/-- where nothing but the same is neither before nor behind, a sorted rearrangement is that one -/
theorem srt_uniq (anti : ∀ x y, lt x y = false → lt y x = false → x = y) : ∀ {l m : List α}, SrtO.Srtd lt l → SrtO.Srtd lt m → l.Perm m → l = m
  | [], m, _, _, h => (List.Perm.eq_nil h.symm).symm
  | x :: l, [], _, _, h => absurd h.length_eq (by simp)
  | x :: l, y :: m, hl, hm, h => by
    have e : x = y := by
      rcases List.mem_cons.mp (h.mem_iff.mp List.mem_cons_self) with e | hx
      · exact e
      · rcases List.mem_cons.mp (h.mem_iff.mpr (List.mem_cons_self (a := y) (l := m))) with e | hy
        · exact e.symm
        · exact anti x y ((List.pairwise_cons.mp hm).1 x hx) ((List.pairwise_cons.mp hl).1 y hy)
    subst e
    rw [srt_uniq anti (List.pairwise_cons.mp hl).2 (List.pairwise_cons.mp hm).2 h.cons_inv]
end
def ltI (i j : Int) : Bool := decide (i < j)
theorem swo_int : SrtO.Swo ltI := ⟨fun x y h => by unfold ltI at *; simp at *; omega, fun x y z h1 h2 => by unfold ltI at *; simp at *; omega⟩
theorem anti_int (x y : Int) (h1 : ltI x y = false) (h2 : ltI y x = false) : x = y := by unfold ltI at *; simp at *; omega
theorem anti_lex : ∀ x y : List Int, HT.lexLt x y = false → HT.lexLt y x = false → x = y
  | [], [], _, _ => rfl
  | [], _ :: _, h, _ => by cases h
  | _ :: _, [], _, h => by cases h
  | x :: xs, y :: ys, h1, h2 => by
    rw [HT.lexLt_cons] at h1 h2
    by_cases e : x = y
    · rw [if_pos e] at h1
      rw [if_pos e.symm] at h2
      rw [e, anti_lex xs ys h1 h2]
    · rw [if_neg e, decide_eq_false_iff_not] at h1
      rw [if_neg (Ne.symm e), decide_eq_false_iff_not] at h2
      omega
theorem swo_lexL : SrtO.Swo HT.lexLt := ⟨lex_asym, lex_tr⟩
/-! ## sorted(x) -/
def rSortTI (K : PySem.W.Frag) : List V → Hp → VK → Prop := fun vs H Q => ∃ (a : Addr) (ks : List (Addr × List Int)), vs = [V.ref a] ∧ SqL K H a (ks.map fun p => V.ref p.1) ∧ (∀ p ∈ ks, SqT K H p.1 (p.2.map V.int)) ∧
  ∀ (zs : List (Addr × List Int)) (q : Addr), zs.Perm ks → zs.Pairwise (fun p r => HT.lexLt r.2 p.2 = false) → H q = none → Q (.ref q) (upd H q (.lst (zs.map fun p => V.ref p.1)))
def adV : Value → Addr
  | .ref a => a
  | _ => default
theorem refs_eq : ∀ (ks : List (Addr × List Int)) {its : List Value}, Vals (ks.map fun p => V.ref p.1) its → its = ks.map fun p => Value.ref p.1
  | [], _, .nil => rfl
  | p :: ks, _, .cons r1 r2 => by rw [List.map_cons, refs_eq ks r2, show _ = Value.ref p.1 from r1]
section
variable {X : Cx}
theorem cr_sortTI (hu : X.A.units + 10 < cLine) : CallR X (.builtin "sorted") (rSortTI X.K) := by
  intro pins st σ H vs us Q I r h
  obtain ⟨a, ks, rfl, hs, hx, q⟩ := h
  obtain ⟨its, rv, hl, hz⟩ := I.list hs
  obtain ⟨u, rfl, ru⟩ := vals1 r
  obtain rfl : u = Value.ref a := ru
  have eits : its = ks.map fun p => Value.ref p.1 := refs_eq ks rv
  let k : Value → List Int := fun v => ((ks.find? fun p => decide (Value.ref p.1 = v)).map (·.2)).getD []
  have hk : ∀ p ∈ ks, k (.ref p.1) = p.2 := by
    intro p hp
    show ((ks.find? fun r => decide (Value.ref r.1 = Value.ref p.1)).map (·.2)).getD [] = p.2
    cases e : ks.find? fun r => decide (Value.ref r.1 = Value.ref p.1) with
    | none =>
      have := List.find?_eq_none.mp e p hp
      simp at this
    | some r =>
      have h1 := List.find?_some e
      have h2 := List.mem_of_find?_eq_some e
      have h3 : r.1 = p.1 := by simpa using h1
      have h4 := hx r h2
      rw [h3] at h4
      have h5 := I.tuple_inj h4 (hx p hp)
      have inj : ∀ {l m : List Int}, l.map V.int = m.map V.int → l = m := fun {l m} e => by
        have := congrArg (List.map fun v => match v with | V.int i => i | _ => 0) e
        simpa [List.map_map, Function.comp_def] using this
      exact inj h5
  have hT : ∀ v ∈ its, TI st.heap v (k v) := by
    intro v hv
    rw [eits] at hv
    obtain ⟨p, hp, rfl⟩ := List.mem_map.mp hv
    obtain ⟨itz, rz, ⟨o, e, c, n, d⟩, _⟩ := I.tuple (hx p hp)
    rw [hk p hp]
    exact ⟨p.1, o, itz, n, rfl, e, c, d, by simpa using L2.intsAre_of rz⟩
  refine SrtO.sorted_ord (swo_tups k) hl.isList (by rw [← rv.length]; exact hz) (fun h2 h1 b ha kk => ?_) fun out h1 h2 => ?_
  · refine ti_sortable (s := { st with heap := h1 }) (by show X.A.units + 1 + 1 + 1 < _; omega) h2 (fun v hv => (hT v hv).keeps fun b o e _ => (kk b o e).2) fun o e => ?_
    have e' : some o = some (seqObj "list" its.toArray 0) := e.symm.trans ha
    cases e'
    intro c
    exact absurd (Value.type.inj c) (by decide)
  · -- the sorted pairs
    have hmem : ∀ v ∈ out, v ∈ its := fun v hv => h2.perm.mem_iff.mp hv
    have eq1 : its.map (fun v => (adV v, k v)) = ks := by
      rw [eits, List.map_map]
      refine (List.map_congr_left fun p hp => ?_).trans (List.map_id ks)
      show (adV (Value.ref p.1), k (Value.ref p.1)) = p
      rw [hk p hp]
      rfl
    have eq2 : (out.map fun v => (adV v, k v)).map (fun p => Value.ref p.1) = out := by
      rw [List.map_map]
      refine (List.map_congr_left fun v hv => ?_).trans (List.map_id out)
      have := hmem v hv
      rw [eits] at this
      obtain ⟨p, _, rfl⟩ := List.mem_map.mp this
      rfl
    obtain ⟨n, hn⟩ := PyProof.Rows.sortedAll_at st.heap its out.toArray
    have hv : ∀ l : List (Addr × List Int), Vals (l.map fun p => V.ref p.1) (l.map fun p => Value.ref p.1) := by
      intro l
      induction l with
      | nil => exact .nil
      | cons p l ih => exact .cons rfl ih
    have hvo := hv (out.map fun v => (adV v, k v))
    rw [eq2] at hvo
    refine ⟨.ref _, upd H (st.heap.objs.size + 1) (.lst _), I.laid (t' := st.toks) (fun _ _ => PyProof.Rows.sortedAll_old) (Nat.le_succ _) ⟨?_, out, n, hvo, hn⟩, rfl, q _ _ ?_ ?_ (I.hok.fresh (Nat.le_succ _))⟩
    · rw [List.length_map, List.length_map, h2.perm.length_eq, ← rv.length]
      exact hz
    · have := h2.perm.map fun v => (adV v, k v)
      rw [eq1] at this
      exact this
    · exact List.pairwise_map.mpr h1
end
section
variable {K : PySem.W.Frag} {G : Gh} {X : Cx}
def tisOf : List D → Option (List (List Int))
  | [] => some []
  | .tup xs :: ds => (intsOf xs).bind fun ns => (tisOf ds).map (ns :: ·)
  | _ => none
def tiD (ns : List Int) : D := .tup (ns.map D.int)
theorem intsOf_eq : ∀ {xs : List D} {ns : List Int}, intsOf xs = some ns → xs = ns.map D.int
  | [], ns, e => by rw [← Option.some.inj e]; rfl
  | d :: ds, ns, e => by
    cases d <;> simp [intsOf] at e
    obtain ⟨ms, e1, e2⟩ := e
    rw [← e2, intsOf_eq e1]
    rfl
theorem tisOf_eq : ∀ {xs : List D} {nss : List (List Int)}, tisOf xs = some nss → xs = nss.map tiD
  | [], ns, e => by rw [← Option.some.inj e]; rfl
  | d :: ds, ns, e => by
    cases d with
    | tup xs =>
      rw [tisOf] at e
      obtain ⟨ms, e1, e⟩ := Option.bind_eq_some_iff.mp e
      obtain ⟨nss, e2, e3⟩ := Option.map_eq_some_iff.mp e
      rw [← e3, tisOf_eq e2, intsOf_eq e1]
      rfl
    | _ => simp [tisOf] at e
theorem intsOf_map : ∀ ns : List Int, intsOf (ns.map D.int) = some ns
  | [] => rfl
  | n :: ns => by simp [intsOf, intsOf_map ns]
theorem tisOf_cons {xs ds : List D} : tisOf (.tup xs :: ds) = (intsOf xs).bind fun ns => (tisOf ds).map (ns :: ·) := by rw [tisOf]
theorem rep_ti {Z : Zs} {H : Hp} {m : Fl} : ∀ zs : List (Addr × List Int), (∀ p ∈ zs, TupX K H p.1 (p.2.map V.int)) → RepL K Z H m (zs.map fun p => tiD p.2) (zs.map fun p => V.ref p.1) []
  | [], _ => .nil
  | p :: zs, h => by
    refine .tup (h p List.mem_cons_self) ?_ (rep_ti zs fun q hq => h q (List.mem_cons_of_mem _ hq))
    generalize p.2 = ns
    induction ns with
    | nil => exact .nil
    | cons n ns ih => exact .sc rfl ih
theorem ti_rep {Z : Zs} {H : Hp} {m : Fl} : ∀ {nss : List (List Int)} {vs : List V} {F : List Addr}, RepL K Z H m (nss.map tiD) vs F → ∃ zs : List (Addr × List Int), vs = (zs.map fun p => V.ref p.1) ∧ nss = zs.map (·.2) ∧ ∀ p ∈ zs, TupX K H p.1 (p.2.map V.int)
  | [], vs, F, h => by
    obtain ⟨rfl, _⟩ := h.nil_inv
    exact ⟨[], rfl, rfl, fun p hp => nomatch hp⟩
  | ns :: nss, vs, F, h => by
    cases h with
    | sc e _ => simp [tiD, scV] at e
    | tup e h1 h2 =>
      obtain ⟨zs, e1, e2, e3⟩ := ti_rep h2
      have : _ = ns.map V.int := rep_ints h1 ns (intsOf_map ns)
      subst this
      refine ⟨(_, ns) :: zs, by rw [e1]; rfl, by rw [e2]; rfl, fun p hp => ?_⟩
      rcases List.mem_cons.mp hp with rfl | hp
      · exact e
      · exact e3 p hp
def D.sorted : D → T D
  | .lst _ xs => match intsOf xs with
    | some ns => .ret (.lst .own ((isort ltI ns).map D.int))
    | none => (T.ofO (tisOf xs)).bind fun nss => .ret (.lst .own ((isort HT.lexLt nss).map tiD))
  | _ => .fail
def rSort2 (K : PySem.W.Frag) : List V → Hp → VK → Prop := fun vs H Q => rSortedI K vs H Q ∨ rSortTI K vs H Q
theorem rep_int {Z : Zs} {H : Hp} {m : Fl} : ∀ ns : List Int, RepL K Z H m (ns.map D.int) (ns.map V.int) []
  | [] => .nil
  | _ :: ns => .sc rfl (rep_int ns)
theorem o_sorted : Op1 K G (fun x H Q => rSort2 K [x] H Q) D.sorted := by
  intro Z H d1 v1 F1 Q t1 p h
  cases d1 <;> first | exact h.elim | skip
  rename_i f xs
  obtain ⟨pa, ws, e1, s1, b1⟩ := lst_bor t1 (fun z hz => (p.own z hz).2) p.zf
  dsimp only [D.sorted] at h
  cases e : intsOf xs with
  | some ns =>
    rw [e] at h
    have ew := rep_ints b1 ns e
    subst ew
    refine .inl ⟨pa, ns, by rw [e1], .of s1, fun ns' q hp hs n => ?_⟩
    have es : ns' = isort ltI ns := srt_uniq anti_int (hs.imp fun {x y} h => by unfold ltI; simp; omega) (isort_srtd swo_int ns) (hp.trans (isort_perm ns).symm)
    subst es
    exact h Z _ _ _ (.lst p (rep_int _) (List.nil_sublist _) n)
  | none =>
    rw [e] at h
    obtain ⟨nss, en, hh⟩ := mat_o h
    clear h
    have ex := tisOf_eq en
    subst ex
    obtain ⟨zs, ew, ez, ht⟩ := ti_rep b1
    subst ew
    refine .inr ⟨pa, zs, by rw [e1], .of s1, fun q hq => (ht q hq).sq, fun ys q hp hs n => ?_⟩
    have es : ys.map (·.2) = isort HT.lexLt nss := by
      refine srt_uniq anti_lex (List.pairwise_map.mpr hs) (isort_srtd swo_lexL nss) ?_
      rw [ez]
      exact (hp.map _).trans (isort_perm _).symm
    have r := rep_ti (K := K) (Z := G.zs Z) (H := H) (m := .own) ys fun q hq => ht q (hp.mem_iff.mp hq)
    have e2 : (ys.map fun q => tiD q.2) = (isort HT.lexLt nss).map tiD := by rw [← es, List.map_map]; rfl
    rw [e2] at r
    exact hh Z _ _ _ (.lst p r (List.nil_sublist _) n)
theorem cr_sorted2 (hu : X.A.units + 10 < cLine) : CallR X (.builtin "sorted") fun vs H Q => ∃ v, vs = [v] ∧ rSort2 X.K [v] H Q := CallR.imp (CallR.or cr_sortedI (cr_sortTI hu)) fun vs H Q ⟨v, e, h⟩ => by rw [e]; exact h
end
end Dn

set_option Elab.async false
set_option linter.all false
set_option maxRecDepth 100000
namespace Dn
open PySem PySem.Spec PyProof.Rows L2
/-! ## len(set(x)) of ints -/
def ddI : List Int → List Int
  | [] => []
  | x :: xs => if x ∈ xs then ddI xs else x :: ddI xs
theorem ddI_mem : ∀ (xs : List Int) (k : Int), k ∈ ddI xs ↔ k ∈ xs
  | [], k => by simp [ddI]
  | x :: xs, k => by
    unfold ddI
    split
    · rename_i c
      rw [ddI_mem xs k]
      constructor
      · exact fun h => List.mem_cons_of_mem _ h
      · intro h
        rcases List.mem_cons.mp h with rfl | h
        · exact c
        · exact h
    · rw [List.mem_cons, List.mem_cons, ddI_mem xs k]
theorem ddI_nodup : ∀ xs : List Int, (ddI xs).Nodup
  | [] => List.nodup_nil
  | x :: xs => by
    unfold ddI
    split
    · exact ddI_nodup xs
    · rename_i c
      exact List.nodup_cons.mpr ⟨fun h => c ((ddI_mem xs x).mp h), ddI_nodup xs⟩
theorem sub_len : ∀ {l m : List Int}, l.Nodup → (∀ k, k ∈ l → k ∈ m) → l.length ≤ m.length
  | [], _, _, _ => Nat.zero_le _
  | x :: l, m, hl, h => by
    obtain ⟨hx, hl⟩ := List.nodup_cons.mp hl
    have hm := h x List.mem_cons_self
    have := sub_len (m := m.erase x) hl fun k hk => (List.mem_erase_of_ne (by rintro rfl; exact hx hk)).mpr (h k (List.mem_cons_of_mem _ hk))
    rw [List.length_erase_of_mem hm] at this
    have hp : 0 < m.length := List.length_pos_of_mem hm
    rw [List.length_cons]
    omega
theorem nodup_len {l m : List Int} (hl : l.Nodup) (hm : m.Nodup) (h : ∀ k, k ∈ l ↔ k ∈ m) : l.length = m.length :=
  Nat.le_antisymm (sub_len hl fun k => (h k).mp) (sub_len hm fun k => (h k).mpr)
theorem met_nodup (f : Nat → Int) : ∀ i, (firstMet f i).Nodup
  | 0 => List.nodup_nil
  | i + 1 => by
    rw [firstMet_succ]
    unfold step_dedup
    split
    · exact met_nodup f i
    · rename_i c
      refine List.nodup_append.mpr ⟨met_nodup f i, List.nodup_cons.mpr ⟨by simp, List.nodup_nil⟩, fun a ha b hb e => c ?_⟩
      rw [List.mem_singleton] at hb
      exact List.any_eq_true.mpr ⟨a, ha, by rw [e, hb]; simp⟩
theorem met_len (ns : List Int) : (firstMet (fun i => ns.getD i 0) ns.length).length = (ddI ns).length := by
  refine nodup_len (met_nodup _ _) (ddI_nodup ns) fun k => ?_
  have h := firstMet_any (fun i => ns.getD i 0) ns.length k
  have e : (List.range ns.length).map (fun i => ns.getD i 0) = ns := by
    apply List.ext_getElem (by simp)
    intro i h1 h2
    simp [h2]
  rw [e] at h
  rw [ddI_mem]
  constructor
  · intro hk
    have : (firstMet (fun i => ns.getD i 0) ns.length).any (· == k) = true := List.any_eq_true.mpr ⟨k, hk, by simp⟩
    rw [h] at this
    obtain ⟨x, hx, e⟩ := List.any_eq_true.mp this
    rw [← eq_of_beq e]; exact hx
  · intro hk
    have : ns.any (· == k) = true := List.any_eq_true.mpr ⟨k, hk, by simp⟩
    rw [← h] at this
    obtain ⟨x, hx, e⟩ := List.any_eq_true.mp this
    rw [← eq_of_beq e]; exact hx
def tSetI (K : PySem.W.Frag) (ta : TE) : TE := fun σ H Q => ta σ H fun x H1 => ∃ (l : Addr) (ns : List Int), x = .ref l ∧ (SqL K H1 l (ns.map V.int) ∨ SqT K H1 l (ns.map V.int)) ∧ ns.length ≤ 4000 ∧ Q (.int ((ddI ns).length : Nat)) H1
theorem pe_setI {X : Cx} {a : Expr} {ta : TE} {p p2 q pos : Pos} (hc : X.calm = true) (hg : Gl X "len") (hm : X.mg "len" = none) (hg2 : Gl X "set") (hm2 : X.mg "set" = none) (ha : PE X a ta)
    (na : starEach [a] X.env = (false, eval a X.env) :: starEach [] X.env := by rfl) : PE X (.Call (.Name "len" p) [.Call (.Name "set" p2) [a] [] q] [] pos) (tSetI X.K ta) := by
  refine ⟨fun pins st σ H Q I h => ?_⟩
  refine Call_ (ld_blt I hg hm PySem.boot_len ?_)
  refine PyProof.Rows.callWith_builtin1 (PyProof.Rows.args_cons ?_ rfl) rfl rfl
  refine Call_ (ld_blt I hg2 hm2 PyProof.Rows.boot_set ?_)
  refine PyProof.Rows.callWith_type1 (PyProof.Rows.args_cons (thn (ha.run pins st σ H _ I h) fun v s1 ⟨x, H1, I1, r1, q1⟩ => PyProof.Rows.args_nil ?_) na) na rfl
  obtain ⟨l, ns, rfl, hq, hl, q1⟩ := q1
  cases r1
  rcases hq with hq | hq
  · obtain ⟨its, rv, pl, _⟩ := I1.list hq
    have hlen : its.toArray.size = ns.length := by rw [List.size_toArray, ← rv.length, List.length_map]
    refine call_set_list (I1.ok.hd hc) pl.isList (by simpa using L2.intsAre_of rv) (by rw [hlen]; unfold scanBound; omega) fun h' tk hS hk => ?_
    refine PyProof.Rows.args_nil ?_
    rw [hlen] at hS
    obtain ⟨o, es, ep, t, ho, hex, hd, _, _, _, hf, hn⟩ := hS
    rw [met_len] at hn
    have I2 : Inv X pins σ H1 { s1 with heap := h', toks := tk } := I1.kept fun b o e => hk b o (Heap.lt_size e) e
    have : (ddI ns).length ≤ ns.length := by
      rw [← met_len]
      exact firstMet_length_le _ _
    exact call_len_set ho hex hd hf (by omega) ⟨.int ((ddI ns).length : Nat), H1, I2.tok _, ⟨_, by rw [hn]⟩, q1⟩
  · obtain ⟨its, rv, pl, _⟩ := I1.tuple hq
    refine call_set_tupI ns (I1.ok.hd hc) (show s1.heap.IsTuple l its.toArray from pl) (by simpa using L2.intsAre_of rv) (by unfold scanBound; omega) fun h' tk c R hcl hk => ?_
    refine PyProof.Rows.args_nil ?_
    obtain ⟨o, es, ep, t, ho, hex, hd, g, nd, hm, _, hf, hn, _⟩ := R
    have e : es.size = (ddI ns).length := by
      have := nodup_len nd (ddI_nodup ns) fun k => by
        rw [ddI_mem, ← hm k, decide_eq_true_eq]
      rw [List.length_map, Array.length_toList] at this
      exact this
    have I2 : Inv X pins σ H1 { s1 with heap := h', toks := tk } := I1.kept hk
    exact call_len_set ho hex hd hf (by omega) ⟨.int ((ddI ns).length : Nat), H1, I2.tok _, ⟨_, by rw [e]⟩, q1⟩
section
variable {K : PySem.W.Frag} {G : Gh} {X : Cx}
def cntI (xs : List D) : T D := (T.ofO (intsOf xs)).bind fun ns => if ns.length ≤ 4000 then .ret (.int ((ddI ns).length : Nat)) else .fail
def D.lenSet : D → T D
  | .lst _ xs => cntI xs
  | .tup xs => cntI xs
  | _ => .fail
theorem o_lenSet : Op1 K G (fun x H Q => ∃ (l : Addr) (ns : List Int), x = .ref l ∧ (SqL K H l (ns.map V.int) ∨ SqT K H l (ns.map V.int)) ∧ ns.length ≤ 4000 ∧ Q (.int ((ddI ns).length : Nat)) H) D.lenSet := by
  intro Z H d1 v1 F1 Q t1 p h
  cases d1 <;> first | exact h.elim | skip
  · obtain ⟨pa, ws, e1, s1, r1, _⟩ := tup_val t1
    obtain ⟨ns, en, h⟩ := mat_o h
    obtain ⟨c, h⟩ := ite_holds h
    have ew := rep_ints r1 ns en
    subst ew
    exact ⟨pa, ns, e1, .inr s1.sq, c, h Z _ H [] (.int p _)⟩
  · obtain ⟨pa, ws, e1, s1, b1⟩ := lst_bor t1 (fun z hz => (p.own z hz).2) p.zf
    obtain ⟨ns, en, h⟩ := mat_o h
    obtain ⟨c, h⟩ := ite_holds h
    have ew := rep_ints b1 ns en
    subst ew
    exact ⟨pa, ns, e1, .inl (.of s1), c, h Z _ H [] (.int p _)⟩
theorem ee_lenSet {a : Expr} {da : Env → T D} {p p2 q pos : Pos} (hc : X.calm = true) (hg : Gl X "len") (hm : X.mg "len" = none) (hg2 : Gl X "set") (hm2 : X.mg "set" = none) (ha : PE X a (RdE X.K G da))
    (na : starEach [a] X.env = (false, eval a X.env) :: starEach [] X.env := by rfl) : PE X (.Call (.Name "len" p) [.Call (.Name "set" p2) [a] [] q] [] pos) (RdE X.K G (un1 D.lenSet da)) := PE.imp (pe_setI hc hg hm hg2 hm2 ha na) fun _ _ _ h => rd1 o_lenSet h
end
end Dn

set_option Elab.async false
set_option linter.all false
set_option maxRecDepth 100000
namespace Dn
open PySem PySem.Spec PyProof.Rows L2
/-! ## x[i], x[j] = a, b -/
section
variable {K : PySem.W.Frag} {G : Gh} {X : Cx}
def putAt (i : Nat) (ie : Env → T D) (d : D) : Env → T Env := fun env => (T.ofO (ownAt env i)).bind fun xs => (ie env).bind fun k => match k with
  | .int k => (T.ofO (ixN xs.length k)).bind fun j => if flatD d = true ∧ xs.all flatD = true then .ret (env.set i (some (.lst .own (xs.set j d)))) else .fail
  | _ => .fail
def set2S (i1 i2 : Nat) (ie1 ie2 e1 e2 : Env → T D) : SD := fun env => (e1 env).bind fun d1 => (e2 env).bind fun d2 => if flatD d1 = true ∧ flatD d2 = true then (putAt i1 ie1 d1 env).bind fun env1 => (putAt i2 ie2 d2 env1).bind fun env2 => .ret (.nx env2) else .fail
/-- one of them put: v stays what it is -/
theorem put_one {i : Nat} {ie : Env → T D} {d : D} {v : V} {Z : Addr → Prop} {env : Env} {σ : L2.St} {H : Hp} {P : Env → Prop} {Q : Hp → Prop} (S : StRel K G Z env σ H) (r : RepL K (G.zs Z) H .own [d] [v] []) (h : (putAt i ie d env).Holds P)
    (q : ∀ env' Z' H', P env' → StRel K G Z' env' σ H' → Keep K G Z H Z' H' → (∀ m ds vs, RepL K (G.zs Z) H m ds vs [] → RepL K (G.zs Z') H' m ds vs []) → Q H') :
    gSub (tVar i) (RdE K G ie) rSetL v σ H fun _ H' => Q H' := by
  obtain ⟨xs, eo, h⟩ := mat_o h
  have ex := ownAt_some eo
  refine tVar_of S ex fun p ws ev hp => ⟨Z, env, S, (T.holds_bind h).mono fun k h Z2 kv H2 F2 o2 => ?_⟩
  cases k with
  | int k =>
    obtain ⟨j, ej, h⟩ := mat_o h
    obtain ⟨c, h⟩ := ite_holds h
    obtain ⟨p2, ws2, F', ev2, hp2, rx0, nF', kF, hk, hm⟩ := mut_of S ex o2.go
    rw [ev] at ev2
    cases ev2
    have rd : RepL K (G.zs Z2) H2 .own [d] [v] [] := o2.go.repS r fun _ z => nomatch z
    have rx : RepL K (G.zs Z2) H2 .own xs ws2 [] := rx0.flat (fun _ z => z) (fun _ z => z) (fun _ z => z) c.2
    obtain ⟨ha, hb⟩ := hm (xs.set j d) (ws2.set j v) [] (RepL.setF rd j rx) (fun q hq => nomatch hq) .nil
    exact ⟨p, ws2, k, j, rfl, int_val o2.tmp, hp2, by rw [← rx.len]; exact ej, q _ Z2 _ h ha hb fun m ds vs hr => hk _ _ _ _ (o2.go.repS hr fun _ z => nomatch z)⟩
  | _ => exact h.elim
theorem rdS_set2 {i1 i2 : Nat} {ie1 ie2 e1 e2 : Env → T D} {dn : Ends} {σ : L2.St} {H : Hp} (h : RdS K G (set2S i1 i2 ie1 ie2 e1 e2) dn σ H) :
    tAsg (fun σ H Q => RdA K G (argsN e1 (argsN e2 args0)) σ H fun xs H1 => xs.length ≤ sizeLine ∧ MkT H1 xs Q) (gTup K 2 (gCons (gSub (tVar i1) (RdE K G ie1) rSetL) (gCons (gSub (tVar i2) (RdE K G ie2) rSetL) gNil))) dn σ H := by
  obtain ⟨Z, env, S, h⟩ := h
  refine ⟨Z, env, S, T.bind_holds ((T.holds_bind h).mono fun d1 h => T.bind_holds (T.bind_holds ((T.holds_bind h).mono fun d2 h => ?_)))⟩
  obtain ⟨c, h⟩ := ite_holds h
  intro Z1 vs H1 F o
  cases o.tmp with
  | @cons _ _ v1 _ F1 _ t1 t2 =>
    cases t2 with
    | @cons _ _ v2 _ F2 _ t2 t3 =>
      cases t3
      refine ⟨by rw [sizeLine_eq]; show 2 ≤ _; omega, fun q ob ho n => ?_⟩
      have g := Go.new (o := .frz ob (.tup [v1, v2])) o.go.potB o.go.zB n
      have S1 := (S.go o.go).go g
      have r1 : RepL K (G.zs Z1) H1 .own [d1] [v1] [] := t1.t.flat (fun _ z => z) (fun _ z => z) (fun _ z => z) (by simp [c.1])
      have r2 : RepL K (G.zs Z1) H1 .own [d2] [v2] [] := t2.t.flat (fun _ z => z) (fun _ z => z) (fun _ z => z) (by simp [c.2])
      refine ⟨q, [v1, v2], rfl, .inl (.inr ⟨ob, upd_same⟩), rfl, v1, [v2], rfl, put_one S1 (g.repS r1 fun _ z => nomatch z) (T.holds_bind h) fun env1 Z2 H2 h S2 k2 c2 => ?_⟩
      refine ⟨v2, [], rfl, put_one S2 (c2 _ _ _ (g.repS r2 fun _ z => nomatch z)) (T.holds_bind h) fun env2 Z3 H3 h S3 k3 c3 => ?_⟩
      exact ⟨rfl, h Z3 σ H3 S3 (((o.go.trans g).keep.trans k2).trans k3)⟩
section
variable {x y : Str} {xp yp p1 p2 tp tp2 pos : Pos} {kt k2 : Nat} {ie1 ie2 e1 e2 : Expr} {d1 d2 de1 de2 : Env → T D}
theorem st_set2 (i1 i2 : Nat) (hc : X.calm = true) (hi1 : IsSl X i1 x) (hi2 : IsSl X i2 y) (h1 : PE X ie1 (RdE X.K G d1)) (h2 : PE X ie2 (RdE X.K G d2)) (he : PA X [e1, e2] (RdA X.K G (argsN de1 (argsN de2 args0))))
    (ha1 : ∀ v, assign (.Subscript (.Name x xp) ie1 p1) X.env v = (do
      let ov ← holding [v] (eval (.Name x xp) X.env)
      let iv ← holding [v, ov] (eval ie1 X.env)
      standAt p1
      holding [v, ov, iv] (setItem ov iv v)
      release [v, ov, iv] []) := by intro _; rfl)
    (ha2 : ∀ v, assign (.Subscript (.Name y yp) ie2 p2) X.env v = (do
      let ov ← holding [v] (eval (.Name y yp) X.env)
      let iv ← holding [v, ov] (eval ie2 X.env)
      standAt p2
      holding [v, ov, iv] (setItem ov iv v)
      release [v, ov, iv] []) := by intro _; rfl)
    (hn : (assignEach [.Subscript (.Name x xp) ie1 p1, .Subscript (.Name y yp) ie2 p2] X.env).length = 2 := by rfl)
    (hst : (assignEach [.Subscript (.Name x xp) ie1 p1, .Subscript (.Name y yp) ie2 p2] X.env).findIdx? (·.1) = none := by rfl)
    (hq1 : (assignEach [.Subscript (.Name x xp) ie1 p1, .Subscript (.Name y yp) ie2 p2] X.env).map (·.2) = assign (.Subscript (.Name x xp) ie1 p1) X.env :: (assignEach [.Subscript (.Name y yp) ie2 p2] X.env).map (·.2) := by rfl)
    (hq2 : (assignEach [.Subscript (.Name y yp) ie2 p2] X.env).map (·.2) = assign (.Subscript (.Name y yp) ie2 p2) X.env :: (assignEach [] X.env).map (·.2) := by rfl)
    (hs : swapsWithSole [.Tuple [.Subscript (.Name x xp) ie1 p1, .Subscript (.Name y yp) ie2 p2] kt tp] (.Tuple [e1, e2] k2 tp2) pos.line X.env = pure false := by rfl)
    (hw : swappedStores [.Tuple [.Subscript (.Name x xp) ie1 p1, .Subscript (.Name y yp) ie2 p2] kt tp] (.Tuple [e1, e2] k2 tp2) X.env = pure none := by rfl)
    (hl : (assignEach [.Tuple [.Subscript (.Name x xp) ie1 p1, .Subscript (.Name y yp) ie2 p2] kt tp] X.env).map (·.2) = [assign (.Tuple [.Subscript (.Name x xp) ie1 p1, .Subscript (.Name y yp) ie2 p2] kt tp) X.env] := by rfl) :
    PS X (.Assign [.Tuple [.Subscript (.Name x xp) ie1 p1, .Subscript (.Name y yp) ie2 p2] kt tp] (.Tuple [e1, e2] k2 tp2) pos) (RdS X.K G (set2S i1 i2 d1 d2 de1 de2)) :=
  PS.imp (ps_asg (pe_tupX he) (pg_tup hc (pgs_cons (pg_sub hi1.pe h1 set_list ha1) (pgs_cons (pg_sub hi2.pe h2 set_list ha2) pgs_nil hq2) hq1) hn hst) hs hw hl) fun _ _ _ h => rdS_set2 h
end
/-! ## x[a:b] = e, e a new list -/
def setSlS (i : Nat) (lo hi e : Env → T D) : SD := fun env => (T.ofO (ownAt env i)).bind fun xs => (e env).bind fun d => (lo env).bind fun a => (hi env).bind fun c => match d, a, c with
  | .lst .own ys, .int a, .int c => if (0 ≤ a ∧ a ≤ c ∧ c ≤ xs.length ∧ xs.length + ys.length ≤ 1000000) ∧ xs.all flatD = true ∧ ys.all flatD = true then .ret (.nx (env.set i (some (.lst .own (xs.take a.toNat ++ ys ++ xs.drop c.toNat))))) else .fail
  | _, _, _ => .fail
/-- by values -/
def SlEnd (dn : Ends) (σ : L2.St) (x v a c : V) (H : Hp) : Prop := ∃ (l b : Addr) (xs ys : List V) (m n : Int), x = .ref l ∧ v = .ref b ∧ a = .int m ∧ c = .int n ∧ H l = some (.lst xs) ∧ H b = some (.lst ys) ∧ l ≠ b ∧ 0 ≤ m ∧ m ≤ n ∧ n ≤ xs.length ∧ xs.length + ys.length ≤ sizeLine ∧
  dn.nx σ (upd H l (.lst (xs.take m.toNat ++ ys ++ xs.drop n.toNat)))
def tSetSl (i : Nat) (te tl th : TE) : TS := fun dn σ H => te σ H fun v H1 => tVar i σ H1 fun x H2 => tl σ H2 fun a H3 => th σ H3 fun c H4 => SlEnd dn σ x v a c H4
theorem ps_setSl {x : Str} {i : Nat} {lo hi value : Expr} {xp p2 pos' pos : Pos} {te tl th : TE} (hi1 : IsSl X i x) (hl : PE X lo tl) (hh : PE X hi th) (hv : PE X value te)
    (hs : swapsWith value (some (.Subscript (.Name x xp) (.Slice (some lo) (some hi) none p2) pos')) pos.line X.env = pure false) : PS X (.Assign [.Subscript (.Name x xp) (.Slice (some lo) (some hi) none p2) pos'] value pos) (tSetSl i te tl th) := by
  refine ⟨fun pins st σ H D I h => ?_⟩
  refine wpAny_Assign_Subscript (thn (hv.run pins st σ H _ I h) fun bv s1 ⟨v, H1, I1, rv, q1⟩ => thn (hi1.pe.run pins s1 σ H1 _ I1 q1) fun lv s2 ⟨y, H2, I2, rx, q2⟩ => ?_) hs
  refine wpAny_Slice ?_
  rw [evalPart_some]
  refine thn (hl.run pins s2 σ H2 _ I2 q2) fun vl s3 ⟨a, H3, I3, ra, q3⟩ => ?_
  rw [evalPart_some]
  refine thn (hh.run pins s3 σ H3 _ I3 q3) fun vu s4 ⟨c, H4, I4, rc, q4⟩ => ?_
  rw [evalPart_none]
  refine wpAny_pure ?_
  have I5 : Inv X pins σ H4 { s4 with heap := s4.heap.push { cls := .type "slice", data := .fields #[vl, vu, .none] } } := I4.kept (t' := s4.toks) fun b ob q => Heap.get?_push_of_some _ q
  obtain ⟨l, b, xs, ys, m, n, rfl, rfl, rfl, rfl, e1, e2, ne, h0, h1, h2, h3, q⟩ := q4
  obtain rfl : lv = Value.ref l := rx
  obtain rfl : bv = Value.ref b := rv
  exact set_slice I5 e1 e2 ne (Heap.IsSliceOf.new ..) ra rc h0 h1 h2 h3 fun s' I6 => ⟨σ, _, I6, q⟩
theorem rdS_setSl {i : Nat} {lo hi e : Env → T D} {dn : Ends} {σ : L2.St} {H : Hp} (h : RdS K G (setSlS i lo hi e) dn σ H) : tSetSl i (RdE K G e) (RdE K G lo) (RdE K G hi) dn σ H := by
  obtain ⟨Z, env, S, h⟩ := h
  obtain ⟨xs, eo, h⟩ := mat_o h
  have ex := ownAt_some eo
  refine ⟨Z, env, S, (T.holds_bind h).mono fun d h Z1 v H1 F1 o => ?_⟩
  have S1 := S.go o.go
  refine tVar_of S1 ex fun p ws ev hp => ⟨Z1, env, S1, (T.holds_bind h).mono fun a h Z2 av H2 F2 o2 => ⟨Z2, env, S1.go o2.go, (T.holds_bind h).mono fun c h Z3 cv H3 F3 o3 => ?_⟩⟩
  obtain ⟨ys, m, n, rfl, rfl, rfl, h⟩ : ∃ ys m n, d = .lst .own ys ∧ a = .int m ∧ c = .int n ∧ T.Holds (Post K G Z H dn) (if (0 ≤ m ∧ m ≤ n ∧ n ≤ xs.length ∧ xs.length + ys.length ≤ 1000000) ∧ xs.all flatD = true ∧ ys.all flatD = true then .ret (.nx (env.set i (some (.lst .own (xs.take m.toNat ++ ys ++ xs.drop n.toNat))))) else .fail) := by
    cases d with
    | lst f ys =>
      cases f <;> cases a <;> cases c <;> first | exact h.elim | exact ⟨_, _, _, rfl, rfl, rfl, h⟩
    | _ => exact h.elim
  obtain ⟨⟨c1, c2, c3⟩, h⟩ := ite_holds h
  have g := (o.go.trans o2.go).trans o3.go
  obtain ⟨p2, ws2, F', ev2, hp2, rx0, nF', kF, hk, hm⟩ := mut_of S ex g
  rw [ev] at ev2
  cases ev2
  have t3 := (o.tmp.go o2.go fun q hq => (o.new.new q hq).2.2).go o3.go fun q hq => (o.new.new q hq).2.2
  obtain ⟨b, us, F4, e1, s1, r1, g1, g2, _⟩ := lst_val t3
  subst e1
  have rb : RepL K (G.zs Z3) H3 .own ys us [] := r1.flat (fun _ z => z) (fun _ z => z) (fun _ z => z) c3
  have rx : RepL K (G.zs Z3) H3 .own xs ws2 [] := rx0.flat (fun _ z => z) (fun _ z => z) (fun _ z => z) c2
  have ne : p ≠ b := by
    rintro rfl
    have hb := (o.new.new p (by rw [g2 rfl]; exact List.mem_cons_self)).1
    obtain ⟨p3, ws3, F5, ev3, hp3, _⟩ := mut_of S ex S.goR
    rw [ev] at ev3
    cases ev3
    rw [hb] at hp3
    cases hp3
  obtain ⟨ha, hb⟩ := hm (xs.take m.toNat ++ ys ++ xs.drop n.toNat) (ws2.take m.toNat ++ us ++ ws2.drop n.toNat) [] (RepL.append (F1 := []) (F2 := []) (RepL.append (F1 := []) (F2 := []) (rx.take _) rb) (rx.drop _)) (fun q hq => nomatch hq) .nil
  have l1 := rx.len
  have l2 := rb.len
  exact ⟨p, b, ws2, us, m, n, rfl, rfl, int_val o2.tmp, int_val o3.tmp, hp2, s1, ne, c1.1, c1.2.1, by rw [← l1]; exact c1.2.2.1, size_small (by omega), h Z3 σ _ ha hb⟩
theorem st_setSl {x : Str} {lo hi value : Expr} {xp p2 pos' pos : Pos} {dl dh de : Env → T D} (i : Nat) (hi1 : IsSl X i x) (hl : PE X lo (RdE X.K G dl)) (hh : PE X hi (RdE X.K G dh)) (hv : PE X value (RdE X.K G de))
    (hs : swapsWith value (some (.Subscript (.Name x xp) (.Slice (some lo) (some hi) none p2) pos')) pos.line X.env = pure false := by rfl) : PS X (.Assign [.Subscript (.Name x xp) (.Slice (some lo) (some hi) none p2) pos'] value pos) (RdS X.K G (setSlS i dl dh de)) :=
  PS.imp (ps_setSl hi1 hl hh hv hs) fun _ _ _ h => rdS_setSl h
end
end Dn

set_option Elab.async false
set_option linter.all false
set_option maxRecDepth 100000
namespace Dn
open PySem PySem.Spec PyProof.Rows L2
/-! ## sorted(set(x)), x a list of fewer than 64 tuples of as many small ints -/
def ddL {α : Type} [DecidableEq α] : List α → List α
  | [] => []
  | x :: xs => if x ∈ xs then ddL xs else x :: ddL xs
section
variable {α : Type} [DecidableEq α]
theorem ddL_mem : ∀ (xs : List α) (k : α), k ∈ ddL xs ↔ k ∈ xs
  | [], k => by simp [ddL]
  | x :: xs, k => by
    unfold ddL
    split
    · rename_i c
      rw [ddL_mem xs k, List.mem_cons]
      exact ⟨.inr, fun h => h.elim (fun e => by rw [e]; exact c) id⟩
    · rw [List.mem_cons, List.mem_cons, ddL_mem xs k]
theorem ddL_nodup : ∀ xs : List α, (ddL xs).Nodup
  | [] => List.nodup_nil
  | x :: xs => by
    unfold ddL
    split
    · exact ddL_nodup xs
    · rename_i c
      exact List.nodup_cons.mpr ⟨fun h => c ((ddL_mem xs x).mp h), ddL_nodup xs⟩
theorem perm_same : ∀ {l m : List α}, l.Nodup → m.Nodup → (∀ k, k ∈ l ↔ k ∈ m) → l.Perm m
  | [], m, _, _, h => by
    cases m with
    | nil => exact List.Perm.refl _
    | cons y m => exact absurd ((h y).mpr List.mem_cons_self) (by simp)
  | x :: l, m, hl, hm, h => by
    obtain ⟨hx, hl⟩ := List.nodup_cons.mp hl
    have hxm := (h x).mp List.mem_cons_self
    refine ((perm_same (m := m.erase x) hl (hm.erase x) fun k => ?_).cons x).trans (List.perm_cons_erase hxm).symm
    rw [hm.mem_erase_iff]
    constructor
    · exact fun hk => ⟨by rintro rfl; exact hx hk, (h k).mp (List.mem_cons_of_mem _ hk)⟩
    · rintro ⟨ne, hk⟩
      exact (List.mem_cons.mp ((h k).mpr hk)).resolve_left ne
end
theorem lex_code {B : Int} : ∀ {x y : List Int}, x.length = y.length → TS.Bd B x → TS.Bd B y → HT.lexLt x y = decide (TS.code B x < TS.code B y)
  | [], [], _, _, _ => by simp [HT.lexLt]
  | [], _ :: _, h, _, _ => by simp at h
  | _ :: _, [], h, _, _ => by simp at h
  | a :: x, b :: y, h, hx, hy => by
    have hl : x.length = y.length := by simpa using h
    rw [HT.lexLt_cons]
    by_cases e : a = b
    · subst e
      rw [if_pos rfl, lex_code hl hx.tail hy.tail, Bool.eq_iff_iff, decide_eq_true_eq, decide_eq_true_eq]
      exact (TS.code_same hl).symm
    · rw [if_neg e, Bool.eq_iff_iff, decide_eq_true_eq, decide_eq_true_eq]
      constructor
      · exact TS.code_lt hl hx.tail hy.tail
      · intro q
        have : ¬ b < a := fun z => by
          have := TS.code_lt hl.symm hy.tail hx.tail z
          omega
        omega
def smallT (d : Nat) (ns : List Int) : Bool := ns.length == d && ns.all fun n => decide (0 ≤ n ∧ n < 1000000)
def D.sortSet : D → T D
  | .lst _ xs => (T.ofO (tisOf xs)).bind fun nss => if nss.length < 64 ∧ 1 ≤ (nss.headD [0]).length ∧ nss.all (smallT (nss.headD [0]).length) = true then .ret (.lst .own ((isort HT.lexLt (ddL nss)).map tiD)) else .fail
  | _ => .fail
section
variable {K : PySem.W.Frag} {G : Gh} {X : Cx}
def rSortSet (K : PySem.W.Frag) (P : Program) (w : World) : V → Hp → VK → Prop := fun x H Q => rSetOfT K P w [x] H fun y H1 => rSortedT K P w [y] H1 Q
theorem o_sortSet {P : Program} {w : World} : Op1 K G (rSortSet K P w) D.sortSet := by
  intro Z H d1 v1 F1 Q t1 p h
  cases d1 <;> first | exact h.elim | skip
  rename_i f xs
  obtain ⟨nss, en, hh⟩ := mat_o h
  clear h
  obtain ⟨⟨c1, c2, c3⟩, hh⟩ := ite_holds hh
  obtain ⟨pa, ws, e1, s1, b1⟩ := lst_bor t1 (fun z hz => (p.own z hz).2) p.zf
  have ex := tisOf_eq en
  subst ex
  obtain ⟨zs, ew, ez, ht⟩ := ti_rep b1
  subst ew
  generalize (nss.headD [0]).length = dd at c2 c3
  have sm : ∀ q ∈ zs, q.2.length = dd ∧ TS.Bd 1000000 q.2 := by
    intro q hq
    have := List.all_eq_true.mp c3 q.2 (by rw [ez]; exact List.mem_map_of_mem hq)
    unfold smallT at this
    rw [Bool.and_eq_true, beq_iff_eq, List.all_eq_true] at this
    exact ⟨this.1, fun m hm => of_decide_eq_true (this.2 m hm)⟩
  refine ⟨pa, zs, by rw [e1], .of s1, fun q hq => (ht q hq).sq, by rw [ez, List.length_map] at c1; exact c1, fun a L na hL hk => ?_⟩
  have g := Go.new (o := SetTO P w a L) p.pot p.zf na
  refine ⟨a, L, dd, 1000000, rfl, upd_same, fun q hq => (g.sqt (ht q (hL q hq))).sq, c2, fun q hq => sm q (hL q hq), fun L' q hp hn hl hs n => ?_⟩
  have inL : ∀ r ∈ L', r ∈ zs := fun r hr => hL r (hp.mem_iff.mp hr)
  have es : L'.map (·.2) = isort HT.lexLt (ddL nss) := by
    refine srt_uniq anti_lex (List.pairwise_map.mpr ?_) (isort_srtd swo_lexL _) ?_
    · refine hs.imp_of_mem fun {x y} hx hy hc => ?_
      obtain ⟨l1, b1⟩ := sm x (inL x hx)
      obtain ⟨l2, b2⟩ := sm y (inL y hy)
      rw [lex_code (l2.trans l1.symm) b2 b1, decide_eq_false_iff_not]
      omega
    · refine (perm_same hn (ddL_nodup nss) fun k => ?_).trans (isort_perm _).symm
      rw [ddL_mem, ez]
      constructor
      · intro hk'
        obtain ⟨r, hr, rfl⟩ := List.mem_map.mp hk'
        exact List.mem_map_of_mem (inL r hr)
      · intro hk'
        obtain ⟨r, hr, rfl⟩ := List.mem_map.mp hk'
        obtain ⟨r', hr', e⟩ := List.mem_map.mp (hk r hr)
        rw [← e]
        exact List.mem_map_of_mem (hp.mem_iff.mpr hr')
  have r := rep_ti (K := K) (Z := G.zs Z) (H := upd H a (SetTO P w a L)) (m := .own) L' fun q hq => g.sqt (ht q (inL q hq))
  have e2 : (L'.map fun q => tiD q.2) = (isort HT.lexLt (ddL nss)).map tiD := by rw [← es, List.map_map]; rfl
  rw [e2] at r
  have pr : Pre K G Z (upd H a (SetTO P w a L)) F1 := ⟨g.potB, g.zB, p.own, p.nd, p.gr.trans g.grow⟩
  have o := OpOut.lst pr r (List.nil_sublist _) n
  refine hh Z _ _ _ ⟨g.grow.trans o.grow, o.potB, o.zle, fun b z => (o.znew b z).imp id fun h => h.imp (fun h => g.grow.back (o.zB b z).2 h) id, o.zB, o.tmp, fun b hb => ⟨(o.own b hb).1.imp (fun h => g.grow.back (o.own b hb).2.2 h) id, (o.own b hb).2⟩, o.nd⟩
theorem ee_sortSet {e : Expr} {de : Env → T D} {p p2 pos pos2 : Pos} (hc : X.calm = true) (hu : X.A.units + 64 < cLine) (hg : Gl X "sorted") (hm : X.mg "sorted" = none) (hg2 : Gl X "set") (hm2 : X.mg "set" = none) (he : PE X e (RdE X.K G de))
    (hs : starEach [e] X.env = (false, eval e X.env) :: starEach [] X.env := by rfl) (hs2 : starEach [.Call (.Name "set" p2) [e] [] pos2] X.env = (false, eval (.Call (.Name "set" p2) [e] [] pos2) X.env) :: starEach [] X.env := by rfl)
    (hpl : (backTo pos2 (starEach [] X.env)).any (·.1) = false := by rfl) (hpl2 : (backTo pos (starEach [] X.env)).any (·.1) = false := by rfl) :
    PE X (.Call (.Name "sorted" p) [.Call (.Name "set" p2) [e] [] pos2] [] pos) (RdE X.K G (un1 D.sortSet de)) :=
  PE.imp (pe_callB (cr_sortedT hc) hg hm PyProof.Rows.boot_sorted (pa_cons (pe_callTy (cr_setOfT hc hu) hg2 hm2 PyProof.Rows.boot_set (pa_cons he pa_nil hs) (by decide) (by decide) hs hpl) pa_nil hs2) (by decide) (by decide) hs2 hpl2) fun _ _ _ h => rd1 (o_sortSet (P := X.prog) (w := X.w)) h
end
end Dn

set_option Elab.async false
set_option linter.all false
set_option maxRecDepth 100000
namespace Dn
open PySem PySem.Spec PyProof.Rows L2
/-! ## the law's call, no repr under way -/
theorem end_call {P : Program} {w : World} {K : PySem.W.Frag} {mg mb : Str → Option Value} {k : Nat} {fa a : Addr} {fd : FuncData} {x : Str} {sp : Sp} {st : Shared} {us : List Value} {ns : List Int}
    (inK : K.In st.heap) (gN : st.heap.Ns mainGlobals mg) (bN : st.heap.Ns builtinsNs mb) (bb : ∀ y : Str, y ≠ "__name__" → mb y = bootBuiltins y) (lim : st.heap.NoLimit) (ge : st.gens = #[])
    (sa : st.heap.get? a = some { cls := .type "list", data := .seq us.toArray }) (si : IntsAre us ns) (sl : ns.length ≤ sizeLine) (room : Room k callerA)
    (F : ∀ base : Heap, K.In base → base.Ns mainGlobals mg → FnG P w K mg base k fa fd [x] sp) (bind : ∀ (s : Shared) (u : Value), BindsTo s fd ⟨[u], []⟩ [(x, u)])
    (say : ∀ H : Hp, Only H → SqL K H a (ns.map V.int) → sp [.ref a] H (fun v _ => v = .bl true) E0) :
    codeAny (model P w) callerA (.call (.ref fa) ⟨[.ref a], []⟩) (fun r s' => r = .ok (.ret (.bool true)) ∧ OldK st.heap s'.heap ∧ s'.os = st.os ∧ AllBare s'.gens) st := by
  have rv := vals_ints si
  have lv := si.length
  have core : ∀ H : Hp, Only H → SqL K H a (ns.map V.int) → HOk P w H st.heap → (∀ b, H b ≠ none → b = a) → (H a ≠ none → K.lookup a = none) →
      codeAny (model P w) callerA (.call (.ref fa) ⟨[.ref a], []⟩) (fun r s' => r = .ok (.ret (.bool true)) ∧ OldK st.heap s'.heap ∧ s'.os = st.os ∧ AllBare s'.gens) st := by
    intro H only sq ok oneA noK
    have dicts : ∀ {b : Addr} {o : Obj} {es : Array DictEntry} {ep : Nat}, st.heap.get? b = some o → o.data = .dict es ep → H b = none := by
      intro b o es ep e d
      by_cases q : H b = none
      · exact q
      · have e' := oneA b q
        subst e'
        rw [sa] at e
        cases e
        exact absurd d (fun z => by cases z)
    have names : ∀ {b : Addr} {m : Str → Option Value}, st.heap.Ns b m → (hidT st.heap H).Ns b m := fun ⟨o, es, ep, e, d, r⟩ => ⟨o, es, ep, hidT_get e (dicts e d), d, r⟩
    have inB : K.In (hidT st.heap H) := fun b o e => hidT_get (inK b o e) (by
      by_cases q : H b = none
      · exact q
      · have e' := oneA b q
        subst e'
        rw [noK q] at e
        cases e)
    obtain ⟨mc, l1, l2⟩ := lim
    have md : Mod K mg (hidT st.heap H) := ⟨inB, names gN, ⟨mb, names bN, bb⟩, mc, names l1, l2⟩
    have e0 : Env0 P w K mg (hidT st.heap H) callerA [] st H := ⟨rfl, md, fun b o e => of_hidT e, Nat.le_of_eq (hidT_size _ _), trivial, fun b hb => (List.not_mem_nil (show b ∈ ([] : List Addr) from hb)).elim, ok, .of_eq ge⟩
    refine codeAny_mono ((F _ inB (names gN)).run callerA [] st H ⟨[.ref a], []⟩ [.ref a] [.ref a] _ _ room rfl e0 (bind st (.ref a)) (.cons rfl .nil) (say H only sq)) fun r s' h => ?_
    cases r with
    | error e => exact h.elim
    | ok fl =>
      cases fl with
      | ret u =>
        obtain ⟨v, H', os, bare, un, ok', rr, q⟩ := h
        have q' : v = .bl true := q
        subst q'
        obtain rfl : u = Value.bool true := rr
        refine ⟨rfl, OldK.of_keep fun b o e => ?_, os, bare⟩
        rcases only b with q | ⟨ob, xs, z⟩
        · exact un.keep b o e q (fun z => List.not_mem_nil (show b ∈ ([] : List Addr) from z)) (by simp)
        · have z2 := un.frzs b ob _ z
          have e1 := (ok b _ z).1
          rw [e] at e1
          cases e1
          exact (ok' b _ z2).1
      | next => exact h.elim
      | brk => exact h.elim
      | cont => exact h.elim
  by_cases hk : K.lookup a = none
  · let H : Hp := fun b => if b = a then some (.frz { cls := .type "list", data := .seq us.toArray } (.lst (ns.map V.int))) else none
    have at_ : ∀ b, b = a ∨ H b = none := fun b => (Classical.em (b = a)).imp id fun n => if_neg n
    have here : H a = some (.frz { cls := .type "list", data := .seq us.toArray } (.lst (ns.map V.int))) := if_pos rfl
    refine core H (fun b => (at_ b).elim (fun e => .inr (by subst e; exact ⟨_, _, here⟩)) .inl) (.inl (.inr ⟨_, here⟩)) (fun b u z => ?_) (fun b z => (at_ b).elim id fun n => absurd n z) fun _ => hk
    rcases at_ b with e | e
    · subst e
      rw [here] at z
      cases z
      exact ⟨sa, by rw [List.length_map]; exact sl, us, _, rv, sa⟩
    · rw [e] at z
      cases z
  · obtain ⟨o, hk⟩ := Option.ne_none_iff_exists'.mp hk
    have e := inK a o hk
    rw [sa] at e
    cases e
    exact core (fun _ => none) (fun _ => .inl rfl) (.inr ⟨_, us.toArray, _, hk, rfl, rfl, rfl, by rw [List.size_toArray, lv]; exact sl, by simpa using rv⟩) (fun b u z => by cases (show (none : Option HO) = some u from z)) (fun b z => absurd rfl z) fun z => absurd rfl z
theorem walkG {l : PySem.W.OpenLaw} {n k : Nat} {q : Program} {loose : List Str} {XP : (Str → Option Value) → Heap → Prop} {YP : World → Heap → Prop} {d : DefRec} {x : Str}
    (hn : l.most = some n) (hn2 : n ≤ sizeLine) (hdf : d.params.defaults = []) (room : Room k callerA)
    (F : ∀ (w : World) (mg : Str → Option Value) (fa : Addr) (h : Heap), YP w h → h.Ns mainGlobals mg → mg d.name = some (.ref fa) →
      ∃ (K : PySem.W.Frag) (fd : FuncData) (sp : Sp), K.In h ∧ (∀ (s : Shared) (u : Value), BindsTo s fd ⟨[u], []⟩ [(x, u)]) ∧
        (∀ (H : Hp) (a : Addr) (ns : List Int), ns.length ≤ n → Only H → SqL K H a (ns.map V.int) → sp [.ref a] H (fun v _ => v = .bl true) E0) ∧
        ∀ base : Heap, K.In base → base.Ns mainGlobals mg → FnG l.prog w K mg base k fa fd [x] sp) :
    PySem.W.WalkO q loose XP YP l.row.toRowW d [] (fun f vs => PySem.call f vs) :=
  Att.attach_call hn hdf fun w _ st mg mb fa _ _ _ _ a us ns G Y _ _ _ hmg hobj hints hlen hg =>
    let ⟨_, _, _, KX, hb, hsp, hF⟩ := F w mg fa _ Y G.T.g hmg
    end_call KX G.T.g G.T.b G.T.builtins G.T.nolimit hg hobj hints (Nat.le_trans hlen hn2) room hF hb fun H hO hS => hsp H a ns hlen hO hS
end Dn

set_option Elab.async false
set_option linter.all false
set_option maxRecDepth 100000
namespace Dn
open PySem PySem.Spec PyProof.Rows L2
/-! ## draws -/
/-- a draw: the pot is changed, of n numbers one is given -/
def spDraw : Sp := fun vs H Q _ => ∃ (p : Addr) (a b n : Int), vs = [.ref p, .int n] ∧ H p = some (.lst [.int a, .int b]) ∧ 0 ≤ a ∧ 0 ≤ b ∧ b < 4294967296 ∧ 0 < n ∧ n < 1073741824 ∧
  ∀ (H' : Hp) (a' b' r : Int), 0 ≤ a' → 0 ≤ b' → b' < 4294967296 → 0 ≤ r → r < n → (H' p = some (.lst [.int a', .int b']) ∧ (∀ q, q ≠ p → ∀ o, H q = some o → H' q = some o)) → Q (.int r) H'
def fDraw : FD := fun ds => match ds with
  | [.pot, .int n] => if 0 < n ∧ n < 1073741824 then .draw n fun i => .ret (.int i) else .fail
  | _ => .fail
/-- the pot of one of the law's cells -/
def spPot (K : PySem.W.Frag) : Sp := fun vs H Q _ => ∃ (s : Addr) (ns : List Int) (k : Int), vs = [.ref s, .int k] ∧ SqL K H s (ns.map V.int) ∧ 0 ≤ k ∧ k < 1000 ∧ ∀ (q : Addr) (a b : Int), 0 ≤ a → 0 ≤ b → b < 4294967296 → H q = none → Q (.ref q) (upd H q (.lst [.int a, .int b]))
section
variable {P : Program} {w : World} {K : PySem.W.Frag} {mg : Str → Option Value} {base : Heap} {k : Nat} {f : Addr} {fd : FuncData} {ps : List Str} {sp sp' : Sp}
theorem FnG.imp (F : FnG P w K mg base k f fd ps sp) (h : ∀ vs H Q E, sp' vs H Q E → sp vs H Q E) : FnG P w K mg base k f fd ps sp' :=
  ⟨fun vs H Q E q => F.len vs H Q E (h vs H Q E q), fun A outer s H args us vs Q E r g e b v q => F.run A outer s H args us vs Q E r g e b v (h vs H Q E q)⟩
theorem draw_spF (vs : List V) (H : Hp) (Q : VK) (E : XK) (h : spF K 2 fDraw vs H Q E) : spDraw vs H Q E := by
  obtain ⟨Z, pot, ds, e, r, hp, hz, h⟩ := h
  match ds, e, r, h with
  | [d1, d2], _, r, h =>
    obtain ⟨n, rfl, rfl, h⟩ : ∃ n, d1 = .pot ∧ d2 = .int n ∧ T.Holds (fun d => ∀ Z' v H' F, FnOut K pot Z H d Z' v H' F → Q v H') (if 0 < n ∧ n < 1073741824 then .draw n fun i => .ret (.int i) else .fail) := by
      cases d1 <;> cases d2 <;> first | exact h.elim | exact ⟨_, rfl, rfl, h⟩
    obtain ⟨c, h⟩ := ite_holds h
    cases r with
    | sc e _ => simp [scV] at e
    | pot e r =>
      cases r with
      | sc e2 r =>
        cases r
        rename_i p v
        have ev : v = .int n := by simpa [scV] using e2.symm
        subst ev
        have e : pot = some p := e
        obtain ⟨a, b, hpp, ha, hb, hb2⟩ := hp p e
        refine ⟨p, a, b, n, rfl, hpp, ha, hb, hb2, c.1, c.2, fun H' a' b' i ha' hb' hb2' h0 h1 ⟨hH, hK⟩ => ?_⟩
        have g : Go ⟨H, pot, Z⟩ Z H Z H' := by
          refine ⟨⟨fun q o n e' => hK q (fun z => n (by rw [z, e])) o e'⟩, hp, fun q eq => ?_, fun _ z => z, fun _ z => .inl z, hz, fun q z => ?_⟩
          · have : q = p := by
              have eq' : pot = some q := eq
              rw [e] at eq'
              exact (Option.some.inj eq').symm
            subst this
            exact ⟨a', b', hH, ha', hb', hb2'⟩
          · obtain ⟨z1, z2⟩ := hz q z
            refine ⟨?_, z2⟩
            obtain ⟨o, eo⟩ := Option.ne_none_iff_exists'.mp z1
            rw [hK q (fun y => z2 (by rw [y, e])) o eo]
            simp
        exact h i h0 h1 Z (.int i) H' [] ⟨g, .sc rfl .nil, .nil⟩
theorem FnG.draw (F : FnG P w K mg base k f fd ["pot", "many"] spDraw) : FnG P w K mg base k f fd ["pot", "many"] (spF K 2 fDraw) := F.imp draw_spF
end
end Dn

set_option Elab.async false
set_option linter.all false
set_option maxRecDepth 100000
namespace Dn
open PySem PySem.Spec PyProof.Rows L2
/-! ## the text's own defs, the free names -/
/-- names that the text leaves to the built-ins -/
structure Fr (mg : Str → Option Value) : Prop where
  len : mg "len" = none
  range : mg "range" = none
  tuple : mg "tuple" = none
  list : mg "list" = none
  repr : mg "repr" = none
  all : mg "all" = none
  any : mg "any" = none
  sorted : mg "sorted" = none
  set : mg "set" = none
  isinstance : mg "isinstance" = none
  enumerate : mg "enumerate" = none
  dict : mg "dict" = none
  divmod : mg "divmod" = none
  abs : mg "abs" = none
  max : mg "max" = none
  min : mg "min" = none
  int : mg "int" = none
  bool : mg "bool" = none
  zip : mg "zip" = none
  sum : mg "sum" = none
  str : mg "str" = none
/-- the def named x does what fn does -/
structure Cal (P : Program) (w : World) (K : PySem.W.Frag) (mg : Str → Option Value) (base : Heap) (k : Nat) (x : Str) (ps : List Str) (params : Arguments) (body : List Stmt) (scope : Scope) (fn : FD) : Prop where
  ex : ∃ f fd, FnG P w K mg base k f fd ps (spF K ps.length fn) ∧ mg x = some (.ref f) ∧ FunD K x x params body scope [] [] f fd
theorem FunD.bindsK {K : PySem.W.Frag} {x qual : Str} {params : Arguments} {body : List Stmt} {scope : Scope} {kws : List (Str × V)} {f : Addr} {fd : FuncData} {ps : List Str} (F : FunD K x qual params body scope [] kws f fd) (ix : List Nat) (ks : List Str)
    (h : ∀ (kV doc pm : Value) (an : Option Addr) (cdv ct : Value) (us : List Value), us.length = ps.length → bindArgs (PySem.W.fnOf x qual params body scope .none kV doc pm an cdv ct) ⟨[], ks.zip us⟩ = pure (ps.zip (perm ix us))) (s : Shared) (us : List Value) (hl : us.length = ps.length) : BindsTo s fd ⟨[], ks.zip us⟩ (ps.zip (perm ix us)) := by
  obtain ⟨oc, od, dV, kV, doc, pm, an, cdv, ct, osl, rfl, lk, hcd, hD, hK⟩ := F.ex
  rcases hD with ⟨_, rfl⟩ | ⟨e, _⟩
  · exact .of_eq (h kV doc pm an cdv ct us hl)
  · exact absurd rfl e
section
variable {X : Cx} {G : Gh} {k : Nat} {ps : List Str} {x : Str} {p pos : Pos} {e : Expr} {es : List Expr} {kws : List Keyword} {fn : FD} {ea : Env → T (List D)} {params : Arguments} {body : List Stmt} {scope : Scope}
theorem ee_fn {j n : Nat} (C : Cal X.prog X.w X.K X.mg X.base k x ps params body scope fn) (hr : Room j X.A) (hg : X.A.guards = some [])
    (hb : ∀ (kV doc pm : Value) (an : Option Addr) (cdv ct : Value) (us : List Value), us.length = ps.length → bindArgs (PySem.W.fnOf x x params body scope .none kV doc pm an cdv ct) ⟨us, []⟩ = pure (ps.zip us))
    (ha : PA X (e :: es) (RdA X.K G ea)) (hn : ps.length = n := by rfl) (hk : k ≤ j := by decide) (hgl : Gl X x := by rfl) (hdb : (x == ("__debug__" : Str)) = false := by decide) (he : starEach (e :: es) X.env = (false, eval e X.env) :: starEach es X.env := by rfl) (hpl : (backTo pos (starEach es X.env)).any (·.1) = false := by rfl) :
    PE X (.Call (.Name x p) (e :: es) [] pos) (RdE X.K G (callN (callF n fn) ea)) := by
  subst hn
  obtain ⟨f, fd, F, hm, FD⟩ := C.ex
  exact ee_call F (hr.mono hk) hg hgl hm FD.kp (FD.bindsN hb) ha hdb he hpl
theorem ee_fnK {j n : Nat} (ix : List Nat) (ks : List Str) (C : Cal X.prog X.w X.K X.mg X.base k x ps params body scope fn) (hr : Room j X.A) (hg : X.A.guards = some [])
    (hb : ∀ (kV doc pm : Value) (an : Option Addr) (cdv ct : Value) (us : List Value), us.length = ps.length → bindArgs (PySem.W.fnOf x x params body scope .none kV doc pm an cdv ct) ⟨[], ks.zip us⟩ = pure (ps.zip (perm ix us)))
    (ha : PK X kws (RdA X.K G ea)) (hn : ps.length = n := by rfl) (hk : k ≤ j := by decide) (hgl : Gl X x := by rfl) (hix : ks.length = ps.length := by rfl)
    (hall : (backToKw pos (keywordEach kws X.env)).all (·.1.isSome) = true := by rfl) (hks : (backToKw pos (keywordEach kws X.env)).filterMap (·.1) = ks := by rfl) (hdb : (x == ("__debug__" : Str)) = false := by decide)
    (hpl : ((backTo pos (starEach [] X.env)).any (·.1) || (backToKw pos (keywordEach kws X.env)).any (·.1.isNone)) = false := by rfl) :
    PE X (.Call (.Name x p) [] kws pos) (RdE X.K G (callN (callP ix n fn) ea)) := by
  subst hn
  obtain ⟨f, fd, F, hm, FD⟩ := C.ex
  exact ee_callK ix ks F (hr.mono hk) hg hgl hm FD.kp (Dn.FunD.bindsK FD ix ks hb) ha hix hall hks hdb hpl
end
end Dn

set_option Elab.async false
set_option linter.all false
set_option maxRecDepth 100000
namespace Dn
open PySem PySem.Spec PyProof.Rows L2
/-! ## small words for printed derivations -/
def isNonD : D → D → T D := fun a b => match b with | .non => .ret (.bl (isNon a)) | _ => .fail
def notNonD : D → D → T D := fun a b => match b with | .non => .ret (.bl (!isNon a)) | _ => .fail
theorem isl_of {X : Cx} {i : Nat} {x : Str} (h1 : X.N[i]? = some x := by rfl) (h2 : Vis X.env.scope x := by first | exact Or.inl rfl | exact Or.inr (Or.inl rfl) | exact Or.inr (Or.inr rfl)) (h3 : (x == ("__debug__" : Str)) = false := by decide) (h4 : (x == ("__classdict__" : Str)) = false := by decide) : IsSl X i x := ⟨h1, h2, h3, h4⟩
theorem room65 {k : Nat} {A : Around} (r : Room k A) : A.units + 65 < cLine := by have := r.un; omega
theorem room64 {k : Nat} {A : Around} (r : Room k A) : A.units + 64 < cLine := by have := r.un; omega
theorem room10 {k : Nat} {A : Around} (r : Room k A) : A.units + 10 < cLine := by have := r.un; omega
abbrev D.rev := D.revL
/-! several names at once, some of them cells: by a tuple -/
def gNames : List Nat → TGs
  | [] => gNil
  | i :: is => gCons (gName i) (gNames is)
theorem gNames_of : ∀ (is : List Nat) (vs : List V) (σ : L2.St) (H : Hp) (Q : L2.St → Hp → Prop), vs.length = is.length → Q ((is.zip vs).foldl (fun s q => s.set q.1 (some q.2)) σ) H → gNames is vs σ H Q
  | [], [], _, _, _, _, q => ⟨rfl, q⟩
  | i :: is, v :: vs, σ, H, Q, hl, q => ⟨v, vs, rfl, gNames_of is vs _ H Q (by simpa using hl) q⟩
  | [], _ :: _, _, _, _, hl, _ => by simp at hl
  | _ :: _, [], _, _, _, hl, _ => by simp at hl
section
variable {K : PySem.W.Frag} {G : Gh} {X : Cx}
theorem rdS_parT {is : List Nat} {ea : Env → T (List D)} {dn : Ends} {σ : L2.St} {H : Hp} (hs : is.length ≤ 1000) (h : RdS K G (parS is ea) dn σ H) : tAsg (fun σ H Q => RdA K G ea σ H fun xs H1 => xs.length ≤ sizeLine ∧ MkT H1 xs Q) (gTup K is.length (gNames is)) dn σ H := by
  obtain ⟨Z, env, S, h⟩ := h
  refine ⟨Z, env, S, (T.holds_bind h).mono fun ds h Z' vs H' F o => ?_⟩
  obtain ⟨env', e, h⟩ := mat_o h
  have hl : ∀ (is : List Nat) (ds : List D) (env : Env), putAll env is ds = some env' → ds.length = is.length := by
    intro is
    induction is with
    | nil => intro ds env e; cases ds <;> first | rfl | cases e
    | cons i is ih =>
      intro ds env e
      cases ds with
      | nil => cases e
      | cons d ds =>
        unfold putAll at e
        split at e
        · cases e
        · simp [ih ds _ e]
  have el : vs.length = is.length := by rw [← o.tmp.len]; exact hl is ds env e
  refine ⟨by rw [sizeLine_eq]; omega, fun q ob ho n => ⟨q, vs, rfl, .inl (.inr ⟨ob, upd_same⟩), el, gNames_of is vs σ _ _ el ?_⟩⟩
  obtain ⟨Fs, S⟩ := S
  have g := Go.new (o := .frz ob (.tup vs)) o.go.potB o.go.zB n
  have gg := o.go.trans g
  have S1 := S.go gg
  have nw := o.new.go g o.tmp.known
  exact h Z' _ _ (put_two S1 (o.tmp.go g fun p hp => (o.new.new p hp).2.2) nw.nd (fun p hp => ⟨S.grow.back (nw.new p hp).2.2 (nw.new p hp).1, (nw.new p hp).2⟩) (fun j p hp hj => (S.new j p hj).2.2.2 (nw.new p hp).1) e) gg.keep
section
variable {x y z : Str} {a b c : Expr} {px py pz pt pos : Pos} {kt k2 : Nat} {pt2 : Pos} {ea : Env → T (List D)}
theorem st_parT2 (i j : Nat) (hc : X.calm = true) (hN : X.N.Nodup) (ha : PA X [a, b] (RdA X.K G ea)) (hi : X.N[i]? = some x := by rfl) (hj : X.N[j]? = some y := by rfl)
    (hx : Loc X.env.scope x := by first | exact Or.inl rfl | exact Or.inr rfl) (hy : Loc X.env.scope y := by first | exact Or.inl rfl | exact Or.inr rfl) (hfx : X.fn x = true ∨ X.env.scope.names.lookup x = some .local := by first | exact .inl rfl | exact .inr rfl) (hfy : X.fn y = true ∨ X.env.scope.names.lookup y = some .local := by first | exact .inl rfl | exact .inr rfl)
    (hn : (assignEach [.Name x px, .Name y py] X.env).length = 2 := by rfl) (hst : (assignEach [.Name x px, .Name y py] X.env).findIdx? (·.1) = none := by rfl)
    (hq1 : (assignEach [.Name x px, .Name y py] X.env).map (·.2) = assign (.Name x px) X.env :: (assignEach [.Name y py] X.env).map (·.2) := by rfl) (hq2 : (assignEach [.Name y py] X.env).map (·.2) = assign (.Name y py) X.env :: (assignEach [] X.env).map (·.2) := by rfl)
    (hs : swapsWithSole [.Tuple [.Name x px, .Name y py] kt pt] (.Tuple [a, b] k2 pt2) pos.line X.env = pure false := by rfl) (hw : swappedStores [.Tuple [.Name x px, .Name y py] kt pt] (.Tuple [a, b] k2 pt2) X.env = pure none := by rfl)
    (hl : (assignEach [.Tuple [.Name x px, .Name y py] kt pt] X.env).map (·.2) = [assign (.Tuple [.Name x px, .Name y py] kt pt) X.env] := by rfl) :
    PS X (.Assign [.Tuple [.Name x px, .Name y py] kt pt] (.Tuple [a, b] k2 pt2) pos) (RdS X.K G (parS [i, j] ea)) :=
  PS.imp (ps_asg (pe_tupX ha) (pg_tup hc (pgs_cons (pg_name hN hi hx hfx) (pgs_cons (pg_name hN hj hy hfy) pgs_nil hq2) hq1) hn hst) hs hw hl) fun _ _ _ h => rdS_parT (is := [i, j]) (by show 2 ≤ 1000; omega) h
theorem st_parT3 (i j l : Nat) (hc : X.calm = true) (hN : X.N.Nodup) (ha : PA X [a, b, c] (RdA X.K G ea)) (hi : X.N[i]? = some x := by rfl) (hj : X.N[j]? = some y := by rfl) (hl' : X.N[l]? = some z := by rfl)
    (hx : Loc X.env.scope x := by first | exact Or.inl rfl | exact Or.inr rfl) (hy : Loc X.env.scope y := by first | exact Or.inl rfl | exact Or.inr rfl) (hz : Loc X.env.scope z := by first | exact Or.inl rfl | exact Or.inr rfl) (hfx : X.fn x = true ∨ X.env.scope.names.lookup x = some .local := by first | exact .inl rfl | exact .inr rfl) (hfy : X.fn y = true ∨ X.env.scope.names.lookup y = some .local := by first | exact .inl rfl | exact .inr rfl) (hfz : X.fn z = true ∨ X.env.scope.names.lookup z = some .local := by first | exact .inl rfl | exact .inr rfl)
    (hn : (assignEach [.Name x px, .Name y py, .Name z pz] X.env).length = 3 := by rfl) (hst : (assignEach [.Name x px, .Name y py, .Name z pz] X.env).findIdx? (·.1) = none := by rfl)
    (hq1 : (assignEach [.Name x px, .Name y py, .Name z pz] X.env).map (·.2) = assign (.Name x px) X.env :: (assignEach [.Name y py, .Name z pz] X.env).map (·.2) := by rfl) (hq2 : (assignEach [.Name y py, .Name z pz] X.env).map (·.2) = assign (.Name y py) X.env :: (assignEach [.Name z pz] X.env).map (·.2) := by rfl) (hq3 : (assignEach [.Name z pz] X.env).map (·.2) = assign (.Name z pz) X.env :: (assignEach [] X.env).map (·.2) := by rfl)
    (hs : swapsWithSole [.Tuple [.Name x px, .Name y py, .Name z pz] kt pt] (.Tuple [a, b, c] k2 pt2) pos.line X.env = pure false := by rfl) (hw : swappedStores [.Tuple [.Name x px, .Name y py, .Name z pz] kt pt] (.Tuple [a, b, c] k2 pt2) X.env = pure none := by rfl)
    (hl : (assignEach [.Tuple [.Name x px, .Name y py, .Name z pz] kt pt] X.env).map (·.2) = [assign (.Tuple [.Name x px, .Name y py, .Name z pz] kt pt) X.env] := by rfl) :
    PS X (.Assign [.Tuple [.Name x px, .Name y py, .Name z pz] kt pt] (.Tuple [a, b, c] k2 pt2) pos) (RdS X.K G (parS [i, j, l] ea)) :=
  PS.imp (ps_asg (pe_tupX ha) (pg_tup hc (pgs_cons (pg_name hN hi hx hfx) (pgs_cons (pg_name hN hj hy hfy) (pgs_cons (pg_name hN hl' hz hfz) pgs_nil hq3) hq2) hq1) hn hst) hs hw hl) fun _ _ _ h => rdS_parT (is := [i, j, l]) (by show 3 ≤ 1000; omega) h
end
end
end Dn

set_option Elab.async false
set_option linter.all false
set_option maxRecDepth 100000
namespace Dn
open PySem PySem.Spec PyProof.Rows L2
/-! ## calls within the law itself -/
section
variable {X : Cx} {k : Nat} {f : Addr} {fd : FuncData} {ps : List Str} {sp : Sp} {x : Str} {p pos : Pos} {e : Expr} {es : List Expr} {ta : TA}
theorem pe_fnG (F : FnG X.prog X.w X.K X.mg X.base k f fd ps sp) (hr : Room k X.A) (hg : X.A.guards = some []) (hgl : Gl X x) (hm : X.mg x = some (.ref f)) (hk : PySem.W.keepIn X.K (.ref f) = true) (hb : Binds X.K fd ps [])
    (ha : PA X (e :: es) ta) (hdb : (x == ("__debug__" : Str)) = false := by decide) (he : starEach (e :: es) X.env = (false, eval e X.env) :: starEach es X.env := by rfl) (hpl : (backTo pos (starEach es X.env)).any (·.1) = false := by rfl) :
    PE X (.Call (.Name x p) (e :: es) [] pos) (fun σ H Q => ta σ H fun vs H1 => sp vs H1 Q E0) := by
  constructor
  intro pins s σ H Q I h
  refine wpAny_Call_Name_kw (ld_glob I hgl hm ?_ hdb)
  refine PySem.W.callWith_K (h₀ := X.base) I.ok.mod.kin hk (thn (ha.run pos pins s σ H _ I h) fun us s1 hh => ?_) he hpl
  obtain ⟨vs, H1, I1, r, q⟩ := hh
  refine ⟨I1.kIn, wpAny_call ?_⟩
  have hl : (us ++ []).length = ps.length := by rw [List.append_nil, ← r.length]; exact F.len _ _ _ _ q
  have hb' := hb s1 us I1.kIn hl
  rw [List.append_nil] at hb'
  exact codeAny_mono (runG F hr hg I1 hb' r q) fun res s' q => by
    cases res with
    | error e => exact q
    | ok fl => cases fl <;> exact q
end
section
variable {K : PySem.W.Frag}
def Kept (H H' : Hp) : Prop := ∀ p o, H p = some o → H' p = some o
theorem Kept.sql {H H' : Hp} {a : Addr} {xs : List V} (k : Kept H H') (h : SqL K H a xs) : SqL K H' a xs := by
  rcases h with (h | ⟨o, h⟩) | h
  · exact .inl (.inl (k _ _ h))
  · exact .inl (.inr ⟨o, k _ _ h⟩)
  · exact .inr h
theorem law_step {f : FD} {more : List D} {ws : List V} (hP : (f (.pot :: more)).Holds fun d => d = .bl true) {H : Hp} {q : Addr} {a b : Int} (n : H q = none) (ha : 0 ≤ a) (hb : 0 ≤ b) (hb2 : b < 4294967296) (hm : ∀ Z, RepL K Z (upd H q (.lst [.int a, .int b])) .arg more ws []) {Q : VK} {E : XK}
    (k : ∀ H', Kept H H' → Q (.bl true) H') : spF K (more.length + 1) f (.ref q :: ws) (upd H q (.lst [.int a, .int b])) Q E := by
  refine ⟨fun _ => False, some q, .pot :: more, rfl, .pot rfl (hm _), fun p e => ?_, fun _ z => z.elim, hP.mono fun d e Z' v H' F o => ?_⟩
  · cases e
    exact ⟨a, b, upd_same, ha, hb, hb2⟩
  · subst e
    have ev : v = .bl true := by
      have r := o.rep
      cases r with
      | sc e _ => simpa [scV] using e.symm
    subst ev
    refine k H' fun p ob e => o.go.grow.keep p ob ?_ ?_
    · rintro ⟨⟩
      rw [n] at e
      cases e
    · rw [upd_ne (fun z => by subst z; rw [n] at e; cases e)]
      exact e
end
end Dn

set_option Elab.async false
set_option linter.all false
set_option maxRecDepth 100000
namespace Dn
open PySem PySem.Spec PyProof.Rows L2
/-! ## all ends of a tree -/
def gat {α β : Type} (f : α → Option (List β)) : List α → Option (List β)
  | [] => some []
  | x :: xs => match f x, gat f xs with
    | some a, some b => some (a ++ b)
    | _, _ => none
def T.ends {α : Type} : T α → Option (List α)
  | .ret a => some [a]
  | .draw n k => gat (fun i : Nat => (k i).ends) (List.range n.toNat)
  | .fail => none
theorem gat_mem {α β : Type} {f : α → Option (List β)} : ∀ {l : List α} {r : List β} {x : α}, gat f l = some r → x ∈ l → ∃ a, f x = some a ∧ ∀ y ∈ a, y ∈ r
  | [], _, _, _, h => nomatch h
  | z :: l, r, x, e, h => by
    unfold gat at e
    split at e
    · rename_i a b e1 e2
      cases e
      rcases List.mem_cons.mp h with rfl | h
      · exact ⟨a, e1, fun y hy => List.mem_append_left _ hy⟩
      · obtain ⟨a', e3, h3⟩ := gat_mem e2 h
        exact ⟨a', e3, fun y hy => List.mem_append_right _ (h3 y hy)⟩
    · cases e
theorem T.ends_holds {α : Type} {Q : α → Prop} : ∀ {t : T α} {l : List α}, t.ends = some l → (∀ a ∈ l, Q a) → t.Holds Q
  | .ret a, l, e, h => by
    have e : some [a] = some l := e
    cases e
    exact h a List.mem_cons_self
  | .draw n k, l, e, h => fun i h0 h1 => by
    obtain ⟨j, rfl⟩ := Int.eq_ofNat_of_zero_le h0
    obtain ⟨a, e1, h3⟩ := gat_mem (f := fun i : Nat => (k i).ends) e (List.mem_range.mpr (show j < n.toNat by omega))
    exact ends_holds e1 fun y hy => h y (h3 y hy)
  | .fail, l, e, _ => by cases (show (none : Option (List α)) = some l from e)
end Dn

set_option Elab.async false
set_option linter.all false
set_option maxRecDepth 100000
namespace Dn
open PySem PySem.Spec PyProof.Rows L2
/-! ## plain laws: lists of rows of whole numbers -/
theorem T.hb {α β : Type} {Q : β → Prop} {t : T α} {k : α → T β} {a : α} (e : t = .ret a) (h : (k a).Holds Q) : (t.bind k).Holds Q := by
  rw [e]; exact h
theorem T.bind_eq {α β : Type} {t : T α} {k : α → T β} {a : α} {b : T β} (e : t = .ret a) (h : k a = b) : t.bind k = b := by
  rw [e]; exact h
def rowD (f : Fl) (rs : List (List Int)) : D := .lst f (rs.map tiD)
theorem degs_ti (f : Fl) (rs : List (List Int)) : (rs.map tiD).map (deg f) = rs.map tiD := by
  rw [List.map_map]; rfl
theorem flat_ti (rs : List (List Int)) : (rs.map tiD).all flatD = true := by
  rw [List.all_map]; exact List.all_eq_true.mpr fun _ _ => rfl
theorem flat_ints (ns : List Int) : (ns.map D.int).all flatD = true := by
  rw [List.all_map]; exact List.all_eq_true.mpr fun _ _ => rfl
theorem newL_ti (rs : List (List Int)) : newL (rs.map tiD) = rowD .own rs := by
  unfold newL rowD; rw [flat_ti]; rfl
theorem clean_ints : ∀ ns : List Int, cleanL (ns.map D.int) = true
  | [] => by rw [List.map_nil, cleanL_nil]
  | n :: ns => by rw [List.map_cons, cleanL_cons, clean_ints ns, show clean (.int n) = true by rw [clean]]; rfl
theorem clean_ti (ns : List Int) : clean (tiD ns) = true := by unfold tiD; rw [clean_tup, clean_ints]
theorem clean_tis : ∀ rs : List (List Int), cleanL (rs.map tiD) = true
  | [] => by rw [List.map_nil, cleanL_nil]
  | n :: ns => by rw [List.map_cons, cleanL_cons, clean_tis ns, clean_ti]; rfl
theorem clean_rowD {f : Fl} (hf : f.pure = true) (rs : List (List Int)) : clean (rowD f rs) = true := by unfold rowD; rw [clean_lst, hf, clean_tis]; rfl
theorem dok_ints : ∀ (n : Nat) (ns : List Int), dokL n (ns.map D.int) = true
  | _, [] => by rw [List.map_nil, dokL]
  | n, x :: ns => by rw [List.map_cons, dokL, dok_ints n ns, dok]; rfl
theorem dok_ti (n : Nat) (ns : List Int) : dok (n + 1) (tiD ns) = true := by unfold tiD; rw [dok]; exact dok_ints n ns
theorem dok_tis (n : Nat) : ∀ rs : List (List Int), dokL (n + 1) (rs.map tiD) = true
  | [] => by rw [List.map_nil, dokL]
  | r :: rs => by rw [List.map_cons, dokL, dok_ti, dok_tis n rs]; rfl
theorem dok_rowD (n : Nat) (f : Fl) (rs : List (List Int)) : dok (n + 2) (rowD f rs) = true := by unfold rowD; rw [dok]; exact dok_tis n rs
theorem eqv_ints : ∀ xs ys : List Int, eqvL (xs.map D.int) (ys.map D.int) = decide (xs = ys)
  | [], [] => by simp [eqvL]
  | [], y :: ys => by simp [eqvL]
  | x :: xs, [] => by simp [eqvL]
  | x :: xs, y :: ys => by
    rw [List.map_cons, List.map_cons, eqvL, eqv_ints xs ys, D.eqv]
    simp only [List.cons.injEq, Bool.decide_and]
    congr 1
theorem eqv_ti (xs ys : List Int) : D.eqv (tiD xs) (tiD ys) = decide (xs = ys) := by unfold tiD; rw [D.eqv]; exact eqv_ints xs ys
theorem eqv_tis : ∀ xs ys : List (List Int), eqvL (xs.map tiD) (ys.map tiD) = decide (xs = ys)
  | [], [] => by simp [eqvL]
  | [], y :: ys => by simp [eqvL]
  | x :: xs, [] => by simp [eqvL]
  | x :: xs, y :: ys => by
    rw [List.map_cons, List.map_cons, eqvL, eqv_tis xs ys, eqv_ti]
    simp only [List.cons.injEq, Bool.decide_and]
theorem eqv_rowD (f g : Fl) (xs ys : List (List Int)) : D.eqv (rowD f xs) (rowD g ys) = decide (xs = ys) := by unfold rowD; rw [D.eqv]; exact eqv_tis xs ys
theorem ne_ti (xs ys : List Int) : D.ne (tiD xs) (tiD ys) = .ret (.bl !decide (xs = ys)) := by
  unfold D.ne; rw [if_pos ⟨dok_ti 63 xs, dok_ti 63 ys⟩, eqv_ti]
theorem eq_ti (xs ys : List Int) : D.eq (tiD xs) (tiD ys) = .ret (.bl (decide (xs = ys))) := by
  unfold D.eq; rw [if_pos ⟨dok_ti 63 xs, dok_ti 63 ys⟩, eqv_ti]
theorem ne_rowD (f g : Fl) (xs ys : List (List Int)) : D.ne (rowD f xs) (rowD g ys) = .ret (.bl !decide (xs = ys)) := by
  unfold D.ne; rw [if_pos ⟨dok_rowD 62 f xs, dok_rowD 62 g ys⟩, eqv_rowD]
theorem ne_str {x y : Str} (hx : PyData.strOk x = true) (hy : PyData.strOk y = true) : D.ne (.str x) (.str y) = .ret (.bl !(x == y)) := by
  unfold D.ne; rw [if_pos ⟨by rw [dok]; exact hx, by rw [dok]; exact hy⟩, D.eqv]
theorem ne_repr {a b : D} (ha : reprOk a = true) (hb : reprOk b = true) (e : toP a = toP b) : D.ne (.str (reprS a)) (.str (reprS b)) = .ret (.bl false) := by
  rw [ne_str (reprOk_lay ha).2.2.2.2.2 (reprOk_lay hb).2.2.2.2.2]
  unfold reprS
  rw [e, beq_self_eq_true]
  rfl
theorem repr_ok {a : D} (hs : isSeqD a = true) (ha : reprOk a = true) : D.repr a = .ret (.str (reprS a)) := by
  unfold D.repr; rw [if_pos ⟨hs, ha⟩]
/-! small whole numbers in rows -/
theorem fit_ints (n : Nat) : ∀ ns : List Int, (∀ i ∈ ns, 0 ≤ i ∧ i < 1000) → fitL n (ns.map D.int) = true
  | [], _ => by rw [List.map_nil, fitL]
  | x :: ns, h => by
    have := h x List.mem_cons_self
    rw [List.map_cons, fitL, fit_ints n ns fun i hi => h i (List.mem_cons_of_mem _ hi), fitD, decide_eq_true (by omega)]; rfl
theorem cost_ints : ∀ ns : List Int, costL (ns.map D.int) = 42 * ns.length
  | [] => by rw [List.map_nil, costL]; rfl
  | x :: ns => by rw [List.map_cons, costL, cost_ints ns, costD, List.length_cons]; omega
def Small (r : List Int) : Prop := r.length ≤ 8 ∧ ∀ i ∈ r, 0 ≤ i ∧ i < 1000
theorem fit_tis (n : Nat) : ∀ rs : List (List Int), (∀ r ∈ rs, Small r) → fitL (n + 1) (rs.map tiD) = true
  | [], _ => by rw [List.map_nil, fitL]
  | x :: rs, h => by
    rw [List.map_cons, fitL, fit_tis n rs fun i hi => h i (List.mem_cons_of_mem _ hi)]
    show (fitD (n + 1) (.tup (x.map D.int)) && true) = true
    rw [fitD, fit_ints n x (h x List.mem_cons_self).2]; rfl
theorem cost_tis : ∀ rs : List (List Int), (∀ r ∈ rs, Small r) → costL (rs.map tiD) ≤ 337 * rs.length
  | [], _ => by rw [List.map_nil, costL]; exact Nat.zero_le _
  | x :: rs, h => by
    have h1 := cost_tis rs fun i hi => h i (List.mem_cons_of_mem _ hi)
    have h2 := (h x List.mem_cons_self).1
    rw [List.map_cons, costL, List.length_cons]
    have h3 : costD (tiD x) = 42 * x.length := by unfold tiD; rw [costD, cost_ints]
    omega
theorem cost_ti {r : List Int} (h : Small r) : costD (tiD r) ≤ 336 := by
  have := h.1
  unfold tiD; rw [costD, cost_ints]; omega
theorem fit_ti {n : Nat} {r : List Int} (h : Small r) : fitD (n + 1) (tiD r) = true := by
  unfold tiD; rw [fitD]; exact fit_ints n r h.2
theorem fit_rowD {n : Nat} {f : Fl} {rs : List (List Int)} (h : ∀ r ∈ rs, Small r) : fitD (n + 2) (rowD f rs) = true := by
  unfold rowD; rw [fitD]; exact fit_tis n rs h
theorem cost_rowD {f : Fl} {rs : List (List Int)} (h : ∀ r ∈ rs, Small r) : costD (rowD f rs) ≤ 337 * rs.length := by
  unfold rowD; rw [costD]; exact cost_tis rs h
theorem reprOk_rowD {f : Fl} {rs : List (List Int)} (h : ∀ r ∈ rs, Small r) (hl : rs.length ≤ 1000) : reprOk (rowD f rs) = true := by
  have := cost_rowD (f := f) h
  unfold reprOk; rw [fit_rowD h, decide_eq_true (by omega)]; rfl
theorem reprOk_two {f : Fl} {a b : D} (ha : fitD 63 a = true) (hb : fitD 63 b = true) (h : costD a + costD b ≤ 1000000) : reprOk (.lst f [a, b]) = true := by
  unfold reprOk
  rw [fitD, fitL, fitL, fitL, ha, hb, costD, costL, costL, costL, decide_eq_true (by omega)]; rfl
theorem toP_rowD (f g : Fl) (rs : List (List Int)) : toP (rowD f rs) = toP (rowD g rs) := by unfold rowD; rw [toP, toP]
theorem toP_two {f g : Fl} {a b a' b' : D} (h1 : toP a = toP a') (h2 : toP b = toP b') : toP (.lst f [a, b]) = toP (.lst g [a', b']) := by
  rw [toP, toP, toPL, toPL, toPL, toPL, toPL, toPL, h1, h2]
/-! pure comprehensions -/
theorem compL_pure {tg : D → Env → T Env} {elt : Env → T D} {env : Env} (g : D → D) : ∀ {ds : List D}, (∀ d ∈ ds, (tg d env).bind elt = .ret (g d) ∧ topBor (g d) = false) → compL tg yesT elt env ds = .ret (ds.map g)
  | [], _ => rfl
  | d :: ds, h => by
    obtain ⟨e, b⟩ := h d List.mem_cons_self
    have ih := compL_pure g fun x hx => h x (List.mem_cons_of_mem _ hx)
    unfold compL
    cases e1 : tg d env with
    | ret e2 =>
      rw [e1] at e
      have e : elt e2 = .ret (g d) := e
      show T.bind (elt e2) _ = _
      rw [e]
      show (if topBor (g d) = true then _ else _) = _
      rw [b, ih]
      rfl
    | draw n k => rw [e1] at e; cases e
    | fail => rw [e1] at e; cases e
end Dn

set_option Elab.async false
set_option linter.all false
set_option maxRecDepth 100000
namespace Dn
open PySem PySem.Spec PyProof.Rows L2
/-! ## plain steps -/
theorem runF_rt {k : Nat} {s : SD} {ds : List D} {d : D} (h : s (ds.map (fun d => some (toArg d)) ++ List.replicate (k - ds.length) none) = .ret (.rt d)) : runF k s ds = .ret d := T.bind_eq h rfl
theorem runF_nx {k : Nat} {s : SD} {ds : List D} {e : Env} (h : s (ds.map (fun d => some (toArg d)) ++ List.replicate (k - ds.length) none) = .ret (.nx e)) : runF k s ds = .ret .non := T.bind_eq h rfl
theorem retS_eq {e : Env → T D} {env : Env} {d : D} (h : e env = .ret d) (c : clean d = true) : retS e env = .ret (.rt d) := T.bind_eq h (if_pos c)
theorem seqS_nx {a b : SD} {env e : Env} {t : T Out} (h : a env = .ret (.nx e)) (h2 : b e = t) : seqS a b env = t := T.bind_eq h h2
theorem seqS_rt {a b : SD} {env : Env} {d : D} (h : a env = .ret (.rt d)) : seqS a b env = .ret (.rt d) := T.bind_eq h rfl
theorem setS_eq {i : Nat} {e : Env → T D} {env : Env} {d : D} (h : e env = .ret d) (c : topBor d = false) : setS i e env = .ret (.nx (env.set i (some d))) := T.bind_eq h (if_neg (by rw [c]; decide))
theorem dropS_eq {e : Env → T D} {env : Env} {d : D} (h : e env = .ret d) : dropS e env = .ret (.nx env) := T.bind_eq h rfl
theorem ifS_eq {c : Env → T Bool} {a b : SD} {env : Env} {k : Bool} {t : T Out} (h : c env = .ret k) (h2 : (if k then a env else b env) = t) : ifS c a b env = t := T.bind_eq h h2
theorem testE_eq {e : Env → T D} {env : Env} {b : Bool} (h : e env = .ret (.bl b)) : testE e env = .ret b := T.bind_eq h rfl
theorem notT_eq {e : Env → T Bool} {env : Env} {b : Bool} (h : e env = .ret b) : notT e env = .ret !b := T.bind_eq h rfl
theorem orT_f {a b : Env → T Bool} {env : Env} {t : T Bool} (h : a env = .ret false) (h2 : b env = t) : orT a b env = t := T.bind_eq h h2
theorem andE_t {a b : Env → T D} {env : Env} {t : T D} (h : a env = .ret (.bl true)) (h2 : b env = t) : andE a b env = t := T.bind_eq (testE_eq h) h2
theorem argsN_eq {a : Env → T D} {r : Env → T (List D)} {env : Env} {x : D} {ys : List D} (h : a env = .ret x) (h2 : r env = .ret ys) : argsN a r env = .ret (x :: ys) := T.bind_eq h (T.bind_eq h2 rfl)
theorem callN_eq {o : List D → T D} {r : Env → T (List D)} {env : Env} {xs : List D} {t : T D} (h : r env = .ret xs) (h2 : o xs = t) : callN o r env = t := T.bind_eq h h2
theorem un1_eq {o : D → T D} {a : Env → T D} {env : Env} {x : D} {t : T D} (h : a env = .ret x) (h2 : o x = t) : un1 o a env = t := T.bind_eq h h2
theorem bin2_eq {o : D → D → T D} {a b : Env → T D} {env : Env} {x y : D} {t : T D} (h : a env = .ret x) (h1 : b env = .ret y) (h2 : o x y = t) : bin2 o a b env = t := T.bind_eq h (T.bind_eq h1 h2)
theorem compE_eq {src : Env → T (List D)} {tg : D → Env → T Env} {elt : Env → T D} {vs : List Nat} {env : Env} {ds : List D} (g : D → D) (h : src env = .ret ds) (hl : ds.length ≤ 1000000) (hg : ∀ d ∈ ds, (tg d (wipeE env vs)).bind elt = .ret (g d) ∧ topBor (g d) = false) : compE src tg yesT elt vs env = .ret (.lst .own (ds.map g)) :=
  T.bind_eq h (by rw [if_pos hl]; exact T.bind_eq (compL_pure g hg) rfl)
theorem bls_const {α : Type} (b : Bool) : ∀ l : List α, blsOf (l.map fun _ => D.bl b) = some (l.map fun _ => b)
  | [] => rfl
  | x :: l => by rw [List.map_cons, List.map_cons, blsOf, bls_const b l]; rfl
theorem all_true {α : Type} (l : List α) : D.all (.lst .own (l.map fun _ => D.bl true)) = .ret (.bl true) := by
  show (T.ofO (blsOf _)).bind _ = _
  rw [bls_const]
  show T.ret (D.bl _) = _
  congr 2
  rw [List.all_map]
  exact List.all_eq_true.mpr fun _ _ => rfl
/-- as it stands in a call's slot: a list or a tuple of rows -/
def ArgS (x : D) (rs : List (List Int)) : Prop := x = rowD .frz rs ∨ x = rowD .arg rs ∨ x = .tup (rs.map tiD)
theorem ArgS.of {f : Fl} {rs : List (List Int)} : ArgS (toArg (rowD f rs)) rs := by cases f <;> first | exact .inl rfl | exact .inr (.inl rfl)
theorem ArgS.toArg {x : D} {rs : List (List Int)} (h : ArgS x rs) : toArg x = x := by rcases h with rfl | rfl | rfl <;> rfl
theorem ArgS.src {x : D} {rs : List (List Int)} (h : ArgS x rs) (c : Bool) : srcL c x = .ret (rs.map tiD) := by
  rcases h with rfl | rfl | rfl
  · show T.ret ((rs.map tiD).map (deg .frz)) = _; rw [degs_ti]
  · show T.ret ((rs.map tiD).map (deg .arg)) = _; rw [degs_ti]
  · show T.ret ((rs.map tiD).map (deg .frz)) = _; rw [degs_ti]
theorem ArgS.brw {x : D} {rs : List (List Int)} (h : ArgS x rs) : brw x = x := by rcases h with rfl | rfl | rfl <;> rfl
theorem ArgS.len {x : D} {rs : List (List Int)} (h : ArgS x rs) : D.len x = .ret (.int rs.length) := by
  rcases h with rfl | rfl | rfl
  · show T.ret (D.int (rs.map tiD).length) = _; rw [List.length_map]
  · show T.ret (D.int (rs.map tiD).length) = _; rw [List.length_map]
  · show T.ret (D.int (rs.map tiD).length) = _; rw [List.length_map]
theorem ddI_id : ∀ {ns : List Int}, ns.Nodup → ddI ns = ns
  | [], _ => rfl
  | x :: xs, h => by
    rw [List.nodup_cons] at h
    unfold ddI
    rw [if_neg h.1, ddI_id h.2]
theorem ints_of : ∀ ns : List Int, intsOf (ns.map D.int) = some ns
  | [] => rfl
  | x :: l => by rw [List.map_cons, intsOf, ints_of l]; rfl
theorem lenSet_ti {ns : List Int} (h : ns.Nodup) (hl : ns.length ≤ 4000) : D.lenSet (tiD ns) = .ret (.int ns.length) := by
  show (T.ofO (intsOf (ns.map D.int))).bind _ = _
  rw [ints_of]
  show (if ns.length ≤ 4000 then T.ret (D.int (ddI ns).length) else .fail) = _
  rw [if_pos hl, ddI_id h]
theorem dok_int (n : Nat) (i : Int) : dok n (.int i) = true := by rw [dok]
theorem ne_int (i j : Int) : D.ne (.int i) (.int j) = .ret (.bl !(i == j)) := by
  unfold D.ne; rw [if_pos ⟨dok_int 64 i, dok_int 64 j⟩, D.eqv]
theorem eq_int (i j : Int) : D.eq (.int i) (.int j) = .ret (.bl (i == j)) := by
  unfold D.eq; rw [if_pos ⟨dok_int 64 i, dok_int 64 j⟩, D.eqv]
theorem atI_last {α : Type} (xs : List α) (h : xs ≠ []) : atI xs (-1) = xs.getLast? := by
  cases xs with
  | nil => exact absurd rfl h
  | cons a l =>
    rw [List.getLast?_eq_getElem?]
    unfold atI ixN
    simp
    rw [if_pos (by omega)]
    have : (-1 + ((l.length : Int) + 1)).toNat = l.length := by omega
    rw [Option.bind_some, this, List.getElem?_eq_getElem (by simp)]
theorem atI_nat {α : Type} (xs : List α) (k : Nat) (h : k < xs.length) : atI xs (k : Int) = xs[k]? := by
  have e : ixN xs.length (k : Int) = some k := by
    unfold ixN
    rw [if_pos (by omega)]
    first | done | rfl | (rw [if_pos (by omega)]; rfl) | simp [h]
  unfold atI
  rw [e]
  rfl
end Dn

set_option Elab.async false
set_option linter.all false
set_option maxRecDepth 100000
set_option maxHeartbeats 3200000
namespace Dn
open PySem PySem.Spec PyProof.Rows L2
/-! ## set(t), t a tuple of tuples of ints -/
abbrev ob0 (w : World) : Obj := { cls := .type "set", dict := none, data := .set #[] 0 (.fresh 0 0 (!w.params.followText "set-order")) }
abbrev hS0 (s : Shared) (w : World) : Heap := s.heap.push (ob0 w)
section
variable {P : Program} {w : World} {A : Around} {s : Shared} {E : Value → Shared → Prop}
theorem set_tt {l : Addr} {its : Array Value} (rs : List (Addr × List Int)) {Q : Value → Shared → Prop} (hh : A.handled = none) (hl : s.heap.IsTuple l its) (itm : its.toList = rs.map fun p => Value.ref p.1)
    (hk : ∀ p ∈ rs, IsT P w s.heap p.2 p.1) (fw : rs.length < 64) (hu : A.units + 3 < cLine)
    (h : ∀ (hB : Heap) (tk : Nat) L es ep t, SetTR P w hB s.heap.objs.size L es ep t → Got rs rs.length L → (∀ b o, s.heap.get? b = some o → hB.get? b = some o) → Q (.ref s.heap.objs.size) { s with heap := hB, toks := tk }) :
    wpAny (model P w) A (call (.type "set") [.ref l]) Q E s := by
  have nsz : its.size = rs.length := by
    have q := congrArg List.length itm
    rw [Array.length_toList, List.length_map] at q
    exact q
  obtain ⟨c, tl, mr⟩ := F.called_set.mro
  have md := F.called_set.made
  have sb := F.called_set.sub
  refine wpAny_call (codeAny_of_tree ?_)
  show wpAny _ _ (callAny (.type "set") _) _ _ _
  refine wpAny_pure ⟨Code.quiet_builtin _ (by decide +kernel), codeAny_builtin F.entry_type_call ?_⟩
  rw [Around.under_plain (weight_type_call_type "set" [.ref l] []) rfl]
  have h1 := F.called_set.notType
  have h2 := F.called_set.canCreate
  have tc := F.typeCall_set_1 (.ref l)
  repeat (any_goals (first | assumption | wp_step))

  refine codeAny_mono (code_set_led1 (.ref l) (E := E) (Q₁ := fun obj sA => obj = .ref s.heap.objs.size ∧ sA = { s with heap := hS0 s w }) ⟨rfl, rfl⟩) fun r sA hr => ?_
  cases r with
  | error e => exact hr
  | ok fl =>
    cases fl with
    | ret obj =>
      obtain ⟨rfl, rfl⟩ := hr
      have hS : (hS0 s w).get? s.heap.objs.size = some (ob0 w) := Heap.get?_push_size _ rfl
      have hTy : Shared.TypeIs { s with heap := hS0 s w } (.ref s.heap.objs.size) "set" := ⟨_, hS, rfl⟩
      have li1 := F.called_set.init.lookup
      have bi1 := F.called_set.init.bind (.ref s.heap.objs.size)
      repeat (any_goals (first | assumption | wp_step))

      refine codeAny_mono (codeAny_call_builtin (R := PySem.wants (fun r sB => r = .none ∧ ∃ hB tk L es ep t, sB = { s with heap := hB, toks := tk } ∧ SetTR P w hB s.heap.objs.size L es ep t ∧ Got rs rs.length L ∧
          (∀ b o, s.heap.get? b = some o → hB.get? b = some o)) E) F.called_set.init.plain F.entry_set_init (check_set_init_1 hTy ?_)) fun rB sB g2r => ?_
      · obtain ⟨ol, ol1, hcl, nl, hdl⟩ := hl
        obtain ⟨ocls, odict, odata, oslots⟩ := ol
        simp only at hcl hdl
        subst hcl; subst hdl
        have hol' : (hS0 s w).get? l = some { cls := .type "tuple", dict := odict, data := .seq its nl, slots := oslots } := Heap.get?_push_of_some _ ol1
        have ss1 := F.sub_tuple_set
        have ss2 := F.sub_tuple_frozenset
        have neq : (Value.type "tuple" == Value.type "dict") = false := by decide
        have l1 : (hS0 s w).IsTuple l its := ⟨_, hol', rfl, nl, rfl⟩
        unfold Builtin.«set.__init__» noKeywords Builtin.Frozenset.updateFrom
        generalize hPI : pyIter = PI
        wp_walk
        subst hPI

        refine wpAny_pyIter_tuple l1 ?_
        refine wpAny_bind (wpAny_runValue ?_)
        have lS : l < s.heap.objs.size := Heap.lt_size ol1
        have h3 : A.in1.in1.in1.handled = none := by simp [hh]
        have z1 : (hS0 s w).objs.size = s.heap.objs.size + 1 := Heap.size_push ..
        have nI : l ≠ (hS0 s w).objs.size := by
          rw [Heap.size_push]; exact Nat.ne_of_lt (Nat.lt_succ_of_lt lS)
        have nSf : s.heap.objs.size ∉ [(hS0 s w).objs.size, l] := by
          rw [Heap.size_push]; simp only [List.mem_cons, List.mem_singleton, List.not_mem_nil, or_false, not_or]
          exact ⟨Nat.ne_of_lt (Nat.lt_succ_self _), Nat.ne_of_gt lS⟩
        have vl : ∀ (i : Nat) (v : Value), its[i]? = some v → ∃ p, rs[i]? = some p ∧ v = .ref p.1 := fun i v hv => by
          have q : its.toList[i]? = some v := by rw [Array.getElem?_toList]; exact hv
          rw [itm, List.getElem?_map] at q
          cases hq : rs[i]? with
          | none => rw [hq] at q; cases q
          | some p =>
            rw [hq] at q
            exact ⟨p, rfl, (Option.some.inj q).symm⟩
        have nof : ∀ b, s.heap.objs.size ≤ b → s.heap.get? b = none := fun b hb => by
          cases q : s.heap.get? b with
          | none => rfl
          | some o => exact absurd (Nat.lt_of_lt_of_le (Heap.lt_size q) hb) (Nat.lt_irrefl _)
        refine set_update_tups ((Walks.tuple h3 _ l nI its).toS) s.heap.objs.size
          nSf rs nsz fw vl s.heap hk (nof _ (Nat.le_refl _)) (fun b hb => nof b (by
            rw [List.mem_singleton.mp hb, Heap.size_push]
            exact Nat.le_succ _)) hu (its.size - 0) 0 _ (by omega) (Nat.zero_le _)
          ⟨⟨_, Heap.get?_push_size _ rfl, rfl, rfl⟩, (l1.push _)⟩ (fun b o e => Heap.get?_push_of_some _ (Heap.get?_push_of_some _ e)) ?hS0 ?hR
        case hS0 =>
          have gt0 : ((hS0 s w).push { cls := .type "tuple_iterator", data := .fields #[.ref l, .int 0 0] }).get? s.heap.objs.size
              = some (ob0 w) := Heap.get?_push_of_some _ hS
          exact ⟨[], #[], 0, _, setTR_fresh gt0, Got.zero rs⟩
        case hR =>
          intro sC L es ep t hm kS gC kp
          obtain ⟨hB, g2, dC, tkB, oC⟩ := sC
          have eg : g2 = s.gens := hm.gens
          have ed : dC = s.drawn := hm.drawn
          have eo : oC = s.os := hm.os
          subst eg; subst ed; subst eo
          show wpAny _ _ _ _ _ _
          refine wpAny_pure ?_
          show wpAny _ _ (ret Value.none) _ _ _
          rw [nsz] at gC
          exact wpAny_pure ⟨rfl, hB, tkB, L, es, ep, t, rfl, kS, gC, kp⟩

      · cases rB with
        | error e => exact g2r
        | ok fB =>
          cases fB with
          | ret r =>
            obtain ⟨rfl, hB, tk, L, es, ep, t, rfl, kS, gC, kk⟩ := g2r
            repeat (any_goals (first | assumption | wp_step))
            exact h _ _ _ _ _ _ kS gC kk
          | _ => exact g2r.elim
    | _ => exact hr.elim

end
end Dn

set_option Elab.async false
set_option linter.all false
set_option maxRecDepth 100000
namespace Dn
open PySem PySem.Spec PyProof.Rows L2
/-! ## what is taken apart: targets = e, e a tuple -/
def asgT (e : Env → T D) (t : D → Env → T Env) : SD := fun env => (e env).bind fun d => match d with
  | .tup xs => (t (.tup xs) env).bind fun env' => .ret (.nx env')
  | _ => .fail
section
variable {K : PySem.W.Frag} {G : Gh} {X : Cx}
theorem rdS_asgT {sl : List Nat} {e : Env → T D} {t : D → Env → T Env} {dn : Ends} {σ : L2.St} {H : Hp} (h : RdS K G (asgT e t) dn σ H) : tAsg (RdE K G e) (RdG K G sl t) dn σ H := by
  obtain ⟨Z, env, S, h⟩ := h
  refine ⟨Z, env, S, (T.holds_bind h).mono fun d h Z' v H' F o => ?_⟩
  cases d with
  | tup xs =>
    refine ⟨Z', env, .tup xs, S.go o.go, ?_, (T.holds_bind h).mono fun e1 h σ' S' _ => h Z' σ' H' S' o.go.keep⟩
    obtain ⟨a, ws, e1, s1, r1, eF⟩ := tup_val o.tmp
    subst eF
    rcases o.tmp with ⟨c, _⟩ | ⟨_, r⟩
    · cases c
    · exact r
  | _ => exact h.elim
theorem st_asgT {sl : List Nat} {tg e : Expr} {de : Env → T D} {dt : D → Env → T Env} {pos : Pos} (he : PE X e (RdE X.K G de)) (hg : PG X tg (RdG X.K G sl dt)) (hs : swapsWithSole [tg] e pos.line X.env = pure false := by rfl) (hw : swappedStores [tg] e X.env = pure none := by rfl)
    (h1 : (assignEach [tg] X.env).map (·.2) = [assign tg X.env] := by rfl) : PS X (.Assign [tg] e pos) (RdS X.K G (asgT de dt)) := PS.imp (ps_asg he hg hs hw h1) fun _ _ _ h => rdS_asgT h
/-! ## is, of truth values -/
def isBD : D → D → T D := fun a b => match a, b with | .bl x, .bl y => .ret (.bl (decide (x = y))) | _, _ => .fail
def notBD : D → D → T D := fun a b => match a, b with | .bl x, .bl y => .ret (.bl (!decide (x = y))) | _, _ => .fail
theorem o_isB : Op2 K G rIsB isBD := by
  intro Z H d1 v1 F1 d2 v2 F2 Q t1 t2 p h
  cases d1 <;> first | exact h.elim | skip
  cases d2 <;> first | exact h.elim | skip
  exact ⟨_, _, bl_val t1, bl_val t2, h Z _ H [] (.bl p _)⟩
theorem o_notB : Op2 K G rNotB notBD := by
  intro Z H d1 v1 F1 d2 v2 F2 Q t1 t2 p h
  cases d1 <;> first | exact h.elim | skip
  cases d2 <;> first | exact h.elim | skip
  exact ⟨_, _, bl_val t1, bl_val t2, h Z _ H [] (.bl p _)⟩
/-! ## len(set(x)), x of whole numbers or of tuples of whole numbers -/
def cntA (xs : List D) : T D := match intsOf xs with
  | some ns => if ns.length ≤ 4000 then .ret (.int ((ddI ns).length : Nat)) else .fail
  | none => (T.ofO (tisOf xs)).bind fun nss => if nss.length < 64 then .ret (.int ((ddL nss).length : Nat)) else .fail
def D.lenSetA : D → T D
  | .lst _ xs => cntA xs
  | .tup xs => cntA xs
  | _ => .fail
def SqE (K : PySem.W.Frag) (H : Hp) (l : Addr) (vs : List V) : Prop := SqL K H l vs ∨ SqT K H l vs
def rLenSet (K : PySem.W.Frag) : V → Hp → VK → Prop := fun x H Q => ∃ l : Addr, x = .ref l ∧ ((∃ ns : List Int, SqE K H l (ns.map V.int) ∧ ns.length ≤ 4000 ∧ Q (.int ((ddI ns).length : Nat)) H) ∨
  ∃ ks : List (Addr × List Int), SqE K H l (ks.map fun p => V.ref p.1) ∧ (∀ p ∈ ks, SqT K H p.1 (p.2.map V.int)) ∧ ks.length < 64 ∧ Q (.int ((ddL (ks.map (·.2))).length : Nat)) H)
theorem got_len {ks L : List (Addr × List Int)} (g : Got ks ks.length L) (nd : (L.map (·.2)).Nodup) : L.length = (ddL (ks.map (·.2))).length := by
  rw [← List.length_map (f := (·.2)) (as := L)]
  refine (perm_same nd (ddL_nodup _) fun k => ?_).length_eq
  rw [ddL_mem]
  constructor
  · intro h
    obtain ⟨p, hp, rfl⟩ := List.mem_map.mp h
    exact List.mem_map_of_mem (List.mem_of_mem_take (g.sub p hp))
  · intro h
    obtain ⟨p, hp, rfl⟩ := List.mem_map.mp h
    exact g.all p (by rw [List.take_length]; exact hp)
theorem len_tt {pins : List (Addr × Obj)} {σ : L2.St} {H : Hp} {s : Shared} {E : Value → Shared → Prop} {Q : V → Hp → Prop} {ks : List (Addr × List Int)} (I : Inv X pins σ H s) (hf : ks.length < 64) (q : Q (.int ((ddL (ks.map (·.2))).length : Nat)) H)
    {h' : Heap} {tk : Nat} {L : List (Addr × List Int)} {es : Array (Int × Value)} {ep : Nat} {t : SetTable} (R : SetTR X.prog X.w h' s.heap.objs.size L es ep t) (g : Got ks ks.length L) (k : ∀ b o, s.heap.get? b = some o → h'.get? b = some o) :
    wpAny (model X.prog X.w) X.A (call (.builtin "len") [.ref s.heap.objs.size]) (fun v s' => ∃ x H', Inv X pins σ H' s' ∧ RelV x v ∧ Q x H') E { s with heap := h', toks := tk } := by
  have I2 : Inv X pins σ H { s with heap := h', toks := tk } := I.kept k
  obtain ⟨o, ho, hex, hd⟩ := R.ob
  have e : es.size = (ddL (ks.map (·.2))).length := by rw [SetTR.size (s := { s with heap := h', toks := tk }) R]; exact got_len g R.nd
  have := R.few
  have := SetTR.size (s := { s with heap := h', toks := tk }) R
  exact call_len_set (s := { s with heap := h', toks := tk }) ho hex hd (SetTR.fits (s := { s with heap := h', toks := tk }) R) (by omega) ⟨.int ((ddL (ks.map (·.2))).length : Nat), H, I2.tok _, ⟨_, by rw [e]⟩, q⟩
def tSetA (K : PySem.W.Frag) (ta : TE) : TE := fun σ H Q => ta σ H fun x H1 => rLenSet K x H1 Q
theorem len_ii {pins : List (Addr × Obj)} {σ : L2.St} {H : Hp} {s : Shared} {E : Value → Shared → Prop} {Q : V → Hp → Prop} {a : Expr} {l : Addr} {ns : List Int} (hc : X.calm = true) (I : Inv X pins σ H s) (hl : ns.length ≤ 4000) (q : Q (.int ((ddI ns).length : Nat)) H)
    (hq : SqE X.K H l (ns.map V.int)) : wpAny (model X.prog X.w) X.A (call (.type "set") [.ref l]) (fun v s' => wpAny (model X.prog X.w) X.A (call (.builtin "len") [v]) (fun v s' => ∃ x H', Inv X pins σ H' s' ∧ RelV x v ∧ Q x H') E s') E s := by
  rcases hq with hq | hq
  · obtain ⟨its, rv, pl, _⟩ := I.list hq
    have en : its.toArray.size = ns.length := by rw [List.size_toArray, ← rv.length, List.length_map]
    refine call_set_list (I.ok.hd hc) pl.isList (by simpa using L2.intsAre_of rv) (by rw [en]; unfold scanBound; omega) fun h' tk hS hk => ?_
    rw [en] at hS
    obtain ⟨o, es, ep, t, ho, hex, hd, _, _, _, hf, hn⟩ := hS
    rw [met_len] at hn
    have I2 : Inv X pins σ H { s with heap := h', toks := tk } := I.kept fun b o e => hk b o (Heap.lt_size e) e
    have : (ddI ns).length ≤ ns.length := by rw [← met_len]; exact firstMet_length_le _ _
    exact call_len_set ho hex hd hf (by omega) ⟨.int ((ddI ns).length : Nat), H, I2.tok _, ⟨_, by rw [hn]⟩, q⟩
  · obtain ⟨its, rv, pl, _⟩ := I.tuple hq
    refine call_set_tupI ns (I.ok.hd hc) (show s.heap.IsTuple l its.toArray from pl) (by simpa using L2.intsAre_of rv) (by unfold scanBound; omega) fun h' tk c R hcl hk => ?_
    obtain ⟨o, es, ep, t, ho, hex, hd, g, nd, hm, _, hf, hn, _⟩ := R
    have e : es.size = (ddI ns).length := by
      have := nodup_len nd (ddI_nodup ns) fun k => by rw [ddI_mem, ← hm k, decide_eq_true_eq]
      rw [List.length_map, Array.length_toList] at this
      exact this
    have I2 : Inv X pins σ H { s with heap := h', toks := tk } := I.kept hk
    exact call_len_set ho hex hd hf (by omega) ⟨.int ((ddI ns).length : Nat), H, I2.tok _, ⟨_, by rw [e]⟩, q⟩
theorem pe_setA {a : Expr} {ta : TE} {p p2 q pos : Pos} (hc : X.calm = true) (hu : X.A.units + 64 < cLine) (hg : Gl X "len") (hm : X.mg "len" = none) (hg2 : Gl X "set") (hm2 : X.mg "set" = none) (ha : PE X a ta)
    (na : starEach [a] X.env = (false, eval a X.env) :: starEach [] X.env := by rfl) : PE X (.Call (.Name "len" p) [.Call (.Name "set" p2) [a] [] q] [] pos) (tSetA X.K ta) := by
  refine ⟨fun pins st σ H Q I h => ?_⟩
  refine Call_ (ld_blt I hg hm PySem.boot_len ?_)
  refine PyProof.Rows.callWith_builtin1 (PyProof.Rows.args_cons ?_ rfl) rfl rfl
  refine Call_ (ld_blt I hg2 hm2 PyProof.Rows.boot_set ?_)
  refine PyProof.Rows.callWith_type1 (PyProof.Rows.args_cons (thn (ha.run pins st σ H _ I h) fun v s1 ⟨x, H1, I1, r1, q1⟩ => PyProof.Rows.args_nil ?_) na) na rfl
  obtain ⟨l, rfl, q1⟩ := q1
  cases r1
  rcases q1 with ⟨ns, hq, hl, q1⟩ | ⟨ks, hq, hk, hf, q1⟩
  · exact thn (len_ii hc I1 hl q1 hq (a := a)) fun v s' h => PyProof.Rows.args_nil h
  · rcases hq with hq | hq
    · obtain ⟨its, rv, pl, _⟩ := I1.list hq
      exact call_set_tups (P := X.prog) (w := X.w) ks (I1.ok.hd hc) pl.isList (by simpa using refs_of_vals rv) (fun p hp => I1.isT (hk p hp)) hf (by omega) fun h' tk L es ep t R g k => PyProof.Rows.args_nil (len_tt I1 hf q1 R g k)
    · obtain ⟨its, rv, pl, _⟩ := I1.tuple hq
      exact set_tt (P := X.prog) (w := X.w) ks (I1.ok.hd hc) (show s1.heap.IsTuple l its.toArray from pl) (by simpa using refs_of_vals rv) (fun p hp => I1.isT (hk p hp)) hf (by omega) fun h' tk L es ep t R g k => PyProof.Rows.args_nil (len_tt I1 hf q1 R g k)
theorem o_lenSetA : Op1 K G (rLenSet K) D.lenSetA := by
  intro Z H d1 v1 F1 Q t1 p h
  cases d1 <;> first | exact h.elim | skip
  · obtain ⟨pa, ws, e1, s1, r1, _⟩ := tup_val t1
    change (cntA _).Holds _ at h
    unfold cntA at h
    split at h
    · rename_i ns en
      obtain ⟨c, h⟩ := ite_holds h
      have ew := rep_ints r1 ns en
      subst ew
      exact ⟨pa, e1, .inl ⟨ns, .inr s1.sq, c, h Z _ H [] (.int p _)⟩⟩
    · obtain ⟨nss, en, hh⟩ := mat_o h
      clear h
      obtain ⟨c, hh⟩ := ite_holds hh
      have ex := tisOf_eq en
      subst ex
      obtain ⟨zs, ew, ez, ht⟩ := ti_rep r1
      subst ew
      exact ⟨pa, e1, .inr ⟨zs, .inr s1.sq, fun q hq => (ht q hq).sq, by rw [ez, List.length_map] at c; exact c, by rw [← ez]; exact hh Z _ H [] (.int p _)⟩⟩
  · obtain ⟨pa, ws, e1, s1, b1⟩ := lst_bor t1 (fun z hz => (p.own z hz).2) p.zf
    change (cntA _).Holds _ at h
    unfold cntA at h
    split at h
    · rename_i ns en
      obtain ⟨c, h⟩ := ite_holds h
      have ew := rep_ints b1 ns en
      subst ew
      exact ⟨pa, e1, .inl ⟨ns, .inl (.of s1), c, h Z _ H [] (.int p _)⟩⟩
    · obtain ⟨nss, en, hh⟩ := mat_o h
      clear h
      obtain ⟨c, hh⟩ := ite_holds hh
      have ex := tisOf_eq en
      subst ex
      obtain ⟨zs, ew, ez, ht⟩ := ti_rep b1
      subst ew
      exact ⟨pa, e1, .inr ⟨zs, .inl (.of s1), fun q hq => (ht q hq).sq, by rw [ez, List.length_map] at c; exact c, by rw [← ez]; exact hh Z _ H [] (.int p _)⟩⟩
theorem ee_lenSetA {a : Expr} {da : Env → T D} {p p2 q pos : Pos} (hc : X.calm = true) (hu : X.A.units + 64 < cLine) (hg : Gl X "len") (hm : X.mg "len" = none) (hg2 : Gl X "set") (hm2 : X.mg "set" = none) (ha : PE X a (RdE X.K G da))
    (na : starEach [a] X.env = (false, eval a X.env) :: starEach [] X.env := by rfl) : PE X (.Call (.Name "len" p) [.Call (.Name "set" p2) [a] [] q] [] pos) (RdE X.K G (un1 D.lenSetA da)) := PE.imp (pe_setA hc hu hg hm hg2 hm2 ha na) fun _ _ _ h => rd1 o_lenSetA h
end
end Dn

set_option Elab.async false
set_option linter.all false
set_option maxRecDepth 100000
namespace Dn
open PySem PySem.Spec PyProof.Rows L2
/-! ## steps, for running by hand -/
section
variable {env : Env} {i : Nat}
theorem var_ti {r : List Int} (e : env[i]? = some (some (tiD r))) : var i env = .ret (tiD r) := by unfold var; rw [e]; rfl
theorem var_int {n : Int} (e : env[i]? = some (some (.int n))) : var i env = .ret (.int n) := by unfold var; rw [e]; rfl
theorem var_bl {n : Bool} (e : env[i]? = some (some (.bl n))) : var i env = .ret (.bl n) := by unfold var; rw [e]; rfl
theorem var_str {n : Str} (e : env[i]? = some (some (.str n))) : var i env = .ret (.str n) := by unfold var; rw [e]; rfl
theorem var_pot (e : env[i]? = some (some .pot)) : var i env = .ret .pot := by unfold var; rw [e]; rfl
theorem var_tup {xs : List D} (e : env[i]? = some (some (.tup xs))) : var i env = .ret (.tup xs) := by unfold var; rw [e]; rfl
theorem var_own {rs : List (List Int)} (e : env[i]? = some (some (rowD .own rs))) : var i env = .ret (rowD .bor rs) := by unfold var; rw [e]; rfl
theorem var_frz {rs : List (List Int)} (e : env[i]? = some (some (rowD .frz rs))) : var i env = .ret (rowD .frz rs) := by unfold var; rw [e]; rfl
theorem var_arg {rs : List (List Int)} (e : env[i]? = some (some (rowD .arg rs))) : var i env = .ret (rowD .arg rs) := by unfold var; rw [e]; rfl
theorem con_eq {d : D} : con d env = .ret d := rfl
theorem one_eq {o : D → T D} {x : D} {t : T D} (h : o x = t) : one o [x] = t := h
theorem two_eq {o : D → D → T D} {x y : D} {t : T D} (h : o x y = t) : two o [x, y] = t := h
theorem args0_eq : args0 env = .ret [] := rfl
theorem cF {k : Nat} {f : FD} {ds : List D} {t : T D} (h : f ds = t) (hl : ds.length = k) : callF k f ds = t := (if_pos hl).trans h
theorem cP {ix : List Nat} {k : Nat} {f : FD} {ds es : List D} {t : T D} (hp : perm ix ds = es) (h : f es = t) (h1 : ds.length = k) (h2 : es.length = k) : callP ix k f ds = t := by
  subst hp; exact (if_pos ⟨h1, h2⟩).trans h
theorem if_f {c : Env → T Bool} {a b : SD} {t : T Out} (h : c env = .ret false) (h2 : b env = t) : ifS c a b env = t := T.bind_eq h h2
theorem if_t {c : Env → T Bool} {a b : SD} {t : T Out} (h : c env = .ret true) (h2 : a env = t) : ifS c a b env = t := T.bind_eq h h2
theorem skip_eq : skipS env = .ret (.nx env) := rfl
theorem or_f {a b : Env → T Bool} {t : T Bool} (h : a env = .ret false) (h2 : b env = t) : orT a b env = t := T.bind_eq h h2
theorem or_t {a b : Env → T Bool} (h : a env = .ret true) : orT a b env = .ret true := T.bind_eq h rfl
theorem not_t {e : Env → T Bool} (h : e env = .ret true) : notT e env = .ret false := T.bind_eq h rfl
theorem not_f {e : Env → T Bool} (h : e env = .ret false) : notT e env = .ret true := T.bind_eq h rfl
theorem te {e : Env → T D} {b : Bool} (h : e env = .ret (.bl b)) : testE e env = .ret b := T.bind_eq h rfl
theorem asg_eq {e : Env → T D} {t : D → Env → T Env} {e1 : Env} {xs : List D} (h : e env = .ret (.tup xs)) (h2 : t (.tup xs) env = .ret e1) : asgT e t env = .ret (.nx e1) := T.bind_eq h (T.bind_eq h2 rfl)
theorem ixT {xs : List D} {k : Nat} {d : D} (h : xs[k]? = some d) : D.ix (.tup xs) (.int (k : Int)) = .ret (deg .frz d) := by
  have hk := (List.getElem?_eq_some_iff.mp h).1
  show (T.ofO (atI xs (k : Int))).bind _ = _
  rw [atI_nat xs k hk, h]; rfl
theorem ix_ti {r : List Int} {k : Nat} {x : Int} (h : r[k]? = some x) : D.ix (tiD r) (.int (k : Int)) = .ret (.int x) :=
  (ixT (d := .int x) (by rw [List.getElem?_map, h]; rfl)).trans rfl
/-- a tuple of rows -/
def tsD (rs : List (List Int)) : D := .tup (rs.map tiD)
theorem ixTs {rs : List (List Int)} {k : Nat} {r : List Int} (h : rs[k]? = some r) : D.ix (tsD rs) (.int (k : Int)) = .ret (tiD r) :=
  (ixT (d := tiD r) (by rw [List.getElem?_map, h]; rfl)).trans rfl
theorem ixTs_last {rs : List (List Int)} {r : List Int} (h : rs.getLast? = some r) : D.ix (tsD rs) (.int (-1)) = .ret (tiD r) := by
  have hx : rs ≠ [] := by intro e; rw [e] at h; cases h
  show (T.ofO (atI (rs.map tiD) (-1))).bind _ = _
  rw [atI_last _ (by simpa using hx), List.getLast?_map, h]; rfl
theorem ixR {f : Fl} {rs : List (List Int)} {k : Nat} {r : List Int} (h : rs[k]? = some r) : D.ix (rowD f rs) (.int (k : Int)) = .ret (tiD r) := by
  have hk := (List.getElem?_eq_some_iff.mp h).1
  show (T.ofO (atI (rs.map tiD) (k : Int))).bind _ = _
  rw [atI_nat _ k (by rw [List.length_map]; exact hk), List.getElem?_map, h]
  cases f <;> rfl
theorem ixR_last {f : Fl} {rs : List (List Int)} {r : List Int} (h : rs.getLast? = some r) : D.ix (rowD f rs) (.int (-1)) = .ret (tiD r) := by
  have hx : rs ≠ [] := by intro e; rw [e] at h; cases h
  show (T.ofO (atI (rs.map tiD) (-1))).bind _ = _
  rw [atI_last _ (by simpa using hx), List.getLast?_map, h]
  cases f <;> rfl
theorem degs_ints (r : List Int) : (r.map D.int).map (deg .frz) = r.map D.int := by rw [List.map_map]; rfl
theorem src_ti {e : Env → T D} {r : List Int} {c : Bool} (h : e env = .ret (tiD r)) : srcE c e env = .ret (r.map D.int) := T.bind_eq h (by show T.ret _ = _; rw [degs_ints])
theorem src_ts {e : Env → T D} {rs : List (List Int)} {c : Bool} (h : e env = .ret (tsD rs)) : srcE c e env = .ret (rs.map tiD) := T.bind_eq h (by show T.ret _ = _; rw [degs_ti])
theorem src_row {e : Env → T D} {rs : List (List Int)} {c : Bool} {f : Fl} (hf : f ≠ .bor ∨ c = true) (h : e env = .ret (rowD f rs)) : srcE c e env = .ret (rs.map tiD) := T.bind_eq h (by
  cases f
  · show T.ret ((rs.map tiD).map (deg .frz)) = _; rw [degs_ti]
  · show T.ret ((rs.map tiD).map (deg .frz)) = _; rw [degs_ti]
  · show T.ret ((rs.map tiD).map (deg .arg)) = _; rw [degs_ti]
  · rcases hf with hf | rfl
    · exact absurd rfl hf
    · show (if _ then _ else _) = _; rw [if_pos (by rw [flat_ti]; rfl)])
theorem compI {src : Env → T (List D)} {elt : Env → T D} {v : Nat} {r : List Int} (g : Int → D) (h : src env = .ret (r.map D.int)) (hl : r.length ≤ 1000000) (hg : ∀ i ∈ r, elt ((wipeE env [v]).set v (some (.int i))) = .ret (g i) ∧ topBor (g i) = false) : compE src (tgN v) yesT elt [v] env = .ret (.lst .own (r.map g)) := by
  have := compE_eq (src := src) (tg := tgN v) (elt := elt) (vs := [v]) (env := env) (ds := r.map D.int) (fun d => match d with | .int i => g i | d => d) h (by rw [List.length_map]; exact hl) fun d hd => by
    obtain ⟨i, hi, rfl⟩ := List.mem_map.mp hd
    exact ⟨T.bind_eq rfl (hg i hi).1, (hg i hi).2⟩
  rw [List.map_map] at this
  exact this
theorem compR {src : Env → T (List D)} {elt : Env → T D} {v : Nat} {rs : List (List Int)} (g : List Int → List Int) (h : src env = .ret (rs.map tiD)) (hl : rs.length ≤ 1000000) (hg : ∀ r ∈ rs, elt ((wipeE env [v]).set v (some (tiD r))) = .ret (tiD (g r))) : compE src (tgN v) yesT elt [v] env = .ret (rowD .own (rs.map g)) := by
  refine T.bind_eq h ?_
  rw [if_pos (by rw [List.length_map]; exact hl)]
  have : compL (tgN v) yesT elt (wipeE env [v]) (rs.map tiD) = .ret ((rs.map g).map tiD) := by
    clear hl h
    induction rs with
    | nil => rfl
    | cons a rs ih =>
      rw [List.map_cons, List.map_cons, List.map_cons]
      unfold compL
      refine T.bind_eq (a := (wipeE env [v]).set v (some (tiD a))) rfl (T.bind_eq (a := true) rfl ?_)
      rw [if_pos rfl]
      refine T.bind_eq (hg a List.mem_cons_self) ?_
      show (if topBor (tiD (g a)) = true then _ else _) = _
      rw [if_neg (show ¬ topBor (tiD (g a)) = true from Bool.noConfusion)]
      exact T.bind_eq (ih fun r hr => hg r (List.mem_cons_of_mem _ hr)) rfl
  exact T.bind_eq this rfl
theorem compB {src : Env → T (List D)} {elt : Env → T D} {v : Nat} {rs : List (List Int)} (h : src env = .ret (rs.map tiD)) (hl : rs.length ≤ 1000000) (hg : ∀ r ∈ rs, elt ((wipeE env [v]).set v (some (tiD r))) = .ret (.bl true)) : compE src (tgN v) yesT elt [v] env = .ret (.lst .own ((rs.map tiD).map fun _ => .bl true)) :=
  compE_eq (fun _ => .bl true) h (by rw [List.length_map]; exact hl) fun d hd => by
    obtain ⟨r, hr, rfl⟩ := List.mem_map.mp hd
    exact ⟨T.bind_eq rfl (hg r hr), rfl⟩
theorem toTup_ti {r : List Int} : D.toTup (.lst .own (r.map D.int)) = .ret (tiD r) := (if_pos (.inr (flat_ints r))).trans rfl
theorem toTup_row {f : Fl} {rs : List (List Int)} : D.toTup (rowD f rs) = .ret (tsD rs) := (if_pos (.inr (flat_ti rs))).trans rfl
theorem lenT {xs : List D} : D.len (.tup xs) = .ret (.int xs.length) := rfl
theorem len_ti {r : List Int} : D.len (tiD r) = .ret (.int r.length) := by show T.ret (D.int (r.map D.int).length) = _; rw [List.length_map]
theorem len_ts {r : List (List Int)} : D.len (tsD r) = .ret (.int r.length) := by show T.ret (D.int (r.map tiD).length) = _; rw [List.length_map]
theorem len_row {f : Fl} {r : List (List Int)} : D.len (rowD f r) = .ret (.int r.length) := by show T.ret (D.int (r.map tiD).length) = _; rw [List.length_map]
end
end Dn

set_option Elab.async false
set_option linter.all false
set_option maxRecDepth 100000
set_option maxHeartbeats 600000
namespace Dn
open PySem PySem.Spec PyProof.Rows L2
/-! ## what holds of all ends of a tree, sealed: no reduction looks into the tree -/
structure Hd {α : Type} (t : T α) (Q : α → Prop) : Prop where
  ok : t.Holds Q
theorem Hd.mono {α : Type} {t : T α} {P Q : α → Prop} (h : Hd t P) (m : ∀ a, P a → Q a) : Hd t Q := ⟨h.ok.mono m⟩
theorem hBind {α β : Type} {t : T α} {f : α → T β} {Q : β → Prop} (h : Hd t fun a => Hd (f a) Q) : Hd (t.bind f) Q := ⟨T.bind_holds (h.ok.mono fun _ q => q.ok)⟩
theorem hEq {α : Type} {t : T α} {a : α} {Q : α → Prop} (e : t = .ret a) (q : Q a) : Hd t Q := ⟨by rw [e]; exact q⟩
theorem hEnds {α : Type} {t : T α} {l : List α} {Q : α → Prop} (e : t.ends = some l) (h : ∀ a ∈ l, Q a) : Hd t Q := ⟨T.ends_holds e h⟩
section
variable {Q : Out → Prop} {env : Env}
theorem kseq {a b : SD} (h : Hd (a env) fun o => ∃ e, o = .nx e ∧ Hd (b e) Q) : Hd (seqS a b env) Q :=
  hBind (h.mono fun o ⟨e, eo, q⟩ => by subst eo; exact q)
theorem kseqE {a b : SD} {e : Env} (h : a env = .ret (.nx e)) (q : Hd (b e) Q) : Hd (seqS a b env) Q := kseq (hEq h ⟨e, rfl, q⟩)
theorem hSet {i : Nat} {e : Env → T D} (h : Hd (e env) fun d => topBor d = false ∧ Q (.nx (env.set i (some d)))) : Hd (setS i e env) Q :=
  hBind (h.mono fun d ⟨c, q⟩ => by rw [c]; exact ⟨q⟩)
theorem hPar {is : List Nat} {ea : Env → T (List D)} (h : Hd (ea env) fun ds => ∃ e, putAll env is ds = some e ∧ Q (.nx e)) : Hd (parS is ea env) Q :=
  hBind (h.mono fun d ⟨e, c, q⟩ => by rw [c]; exact ⟨q⟩)
theorem hArgs {a : Env → T D} {r : Env → T (List D)} {Q : List D → Prop} (h : Hd (a env) fun x => Hd (r env) fun ys => Q (x :: ys)) : Hd (argsN a r env) Q :=
  hBind (h.mono fun x q => hBind (q.mono fun _ q => ⟨q⟩))
theorem hArgE {a : Env → T D} {r : Env → T (List D)} {Q : List D → Prop} {x : D} (e : a env = .ret x) (h : Hd (r env) fun ys => Q (x :: ys)) : Hd (argsN a r env) Q := hArgs (hEq e h)
theorem hArg0 {Q : List D → Prop} (h : Q []) : Hd (args0 env) Q := ⟨h⟩
theorem hCallD {o : List D → T D} {r : Env → T (List D)} {Q : D → Prop} (h : Hd (r env) fun xs => Hd (o xs) Q) : Hd (callN o r env) Q := hBind h
theorem hCall {o : List D → T D} {r : Env → T (List D)} {xs : List D} {Q : D → Prop} (e : r env = .ret xs) (h : Hd (o xs) Q) : Hd (callN o r env) Q := hBind (hEq e h)
theorem hF {k : Nat} {f : FD} {ds : List D} {Q : D → Prop} (h : Hd (f ds) Q) (hl : ds.length = k := by rfl) : Hd (callF k f ds) Q := by
  rw [cF rfl hl]; exact h
theorem hBin {o : D → D → T D} {a b : Env → T D} {Q : D → Prop} (h : Hd (a env) fun x => Hd (b env) fun y => Hd (o x y) Q) : Hd (bin2 o a b env) Q := hBind (h.mono fun x q => hBind q)
theorem hFor {src : Env → T (List D)} {tg : D → Env → T Env} {body : SD} (h : Hd (src env) fun ds => Hd (loopS tg body ds env) Q) : Hd (forS src tg body env) Q := hBind h
theorem hLoop {tg : D → Env → T Env} {body : SD} {I : Env → Prop} : ∀ {ds : List D} {env : Env}, (∀ d ∈ ds, ∀ e, I e → ∃ e1, tg d e = .ret e1 ∧ Hd (body e1) fun o => ∃ e2, o = .nx e2 ∧ I e2) → I env → Hd (loopS tg body ds env) fun o => ∃ e, o = .nx e ∧ I e
  | [], env, _, i => ⟨⟨env, rfl, i⟩⟩
  | d :: ds, env, h, i => by
    obtain ⟨e1, h1, h2⟩ := h d List.mem_cons_self env i
    refine hBind (hEq h1 (hBind (h2.mono ?_)))
    rintro o ⟨e2, rfl, i2⟩
    exact hLoop (fun d hd => h d (List.mem_cons_of_mem _ hd)) i2
theorem hFn {k : Nat} {s : SD} {ds : List D} {Q : D → Prop} (h : Hd (s (ds.map (fun d => some (toArg d)) ++ List.replicate (k - ds.length) none)) fun o => ∃ d, o = .rt d ∧ Q d) : Hd (runF k s ds) Q :=
  hBind (h.mono fun o ⟨d, eo, q⟩ => by subst eo; exact ⟨q⟩)
theorem hRet {e : Env → T D} (h : Hd (e env) fun d => clean d = true ∧ Q (.rt d)) : Hd (retS e env) Q := hBind (h.mono fun d ⟨c, q⟩ => by rw [if_pos c]; exact ⟨q⟩)
theorem hDraw {m : Int} (h : 0 < m ∧ m < 1073741824) : Hd (fDraw [.pot, .int m]) fun d => ∃ i : Int, 0 ≤ i ∧ i < m ∧ d = .int i := by
  rw [show fDraw [.pot, .int m] = .draw m fun i => .ret (.int i) from if_pos h]
  exact ⟨fun i a b => ⟨i, a, b, rfl⟩⟩
theorem rg_eq {e : Env → T D} {m : Int} (h : e env = .ret (.int m)) (h1 : -1000000 ≤ m ∧ m ≤ 1000000) : srcR (rg1 e) env = .ret (rgD 0 m) :=
  T.bind_eq (a := ((0 : Int), m)) (T.bind_eq h rfl) (if_pos ⟨by show (-1000000 : Int) ≤ 0; decide, by show (0 : Int) ≤ 1000000; decide, h1⟩)
theorem hRg {e : Env → T D} {Q : List D → Prop} (h : Hd (e env) fun d => ∃ m : Int, d = .int m ∧ (-1000000 ≤ m ∧ m ≤ 1000000) ∧ Q (rgD 0 m)) : Hd (srcR (rg1 e) env) Q :=
  hBind (hBind (h.mono fun d ⟨m, e, h1, q⟩ => by
    subst e
    exact hEq (a := ((0 : Int), m)) rfl (hEq (if_pos ⟨by show (-1000000 : Int) ≤ 0; decide, by show (0 : Int) ≤ 1000000; decide, h1⟩) q)))
theorem compL_hd {tg : D → Env → T Env} {elt : Env → T D} {env : Env} {P : List Int → Prop} : ∀ {ds : List D}, (∀ d ∈ ds, Hd ((tg d env).bind elt) fun y => ∃ c, P c ∧ y = tiD c) → Hd (compL tg yesT elt env ds) fun ys => ∃ cs : List (List Int), (∀ c ∈ cs, P c) ∧ ys = cs.map tiD ∧ cs.length = ds.length
  | [], _ => ⟨⟨[], fun _ h => (List.not_mem_nil h).elim, rfl, rfl⟩⟩
  | d :: ds, h => by
    have h1 := h d List.mem_cons_self
    have ih := compL_hd (tg := tg) (elt := elt) (env := env) (P := P) fun x hx => h x (List.mem_cons_of_mem _ hx)
    unfold compL
    refine hBind (Hd.mono (P := fun e1 => Hd (elt e1) fun y => ∃ c, P c ∧ y = tiD c) ⟨(T.holds_bind h1.ok).mono fun _ h => ⟨h⟩⟩ fun e1 h2 => hBind (hEq (a := true) rfl ?_))
    rw [if_pos rfl]
    refine hBind (h2.mono ?_)
    rintro y ⟨c, hc, rfl⟩
    show Hd (if topBor (tiD c) = true then _ else _) _
    rw [if_neg (show ¬ topBor (tiD c) = true from Bool.noConfusion)]
    refine hBind (ih.mono ?_)
    rintro ys ⟨cs, hcs, rfl, hl⟩
    exact ⟨⟨c :: cs, fun x hx => (List.mem_cons.mp hx).elim (fun e => by rw [e]; exact hc) (hcs x), rfl, by rw [List.length_cons, List.length_cons, hl]⟩⟩
theorem hCompR {src : Env → T (List D)} {tg : D → Env → T Env} {elt : Env → T D} {vs : List Nat} {P : List Int → Prop} {L : Nat → Prop} (e : Hd (src env) fun ds => ds.length ≤ 1000000 ∧ L ds.length ∧ ∀ d ∈ ds, Hd ((tg d (wipeE env vs)).bind elt) fun y => ∃ c, P c ∧ y = tiD c) :
    Hd (compE src tg yesT elt vs env) fun y => ∃ cs : List (List Int), (∀ c ∈ cs, P c) ∧ L cs.length ∧ y = rowD .own cs :=
  hBind (e.mono fun ds ⟨hl, hL, h⟩ => by
    rw [if_pos hl]
    refine hBind ((compL_hd h).mono ?_)
    rintro ys ⟨cs, h1, rfl, h3⟩
    exact ⟨⟨cs, h1, by rw [h3]; exact hL, rfl⟩⟩)
end
section
variable {env : Env}
theorem compL_filter {v : Nat} {cond : Env → T Bool} {elt : Env → T D} {en : Env} (p : List Int → Bool) : ∀ {rs : List (List Int)}, (∀ r ∈ rs, cond (en.set v (some (tiD r))) = .ret (p r) ∧ elt (en.set v (some (tiD r))) = .ret (tiD r)) → compL (tgN v) cond elt en (rs.map tiD) = .ret ((rs.filter p).map tiD)
  | [], _ => rfl
  | r :: rs, h => by
    have ih := compL_filter (rs := rs) p fun x hx => h x (List.mem_cons_of_mem _ hx)
    obtain ⟨h1, h2⟩ := h r List.mem_cons_self
    rw [List.map_cons]
    unfold compL
    refine T.bind_eq rfl (T.bind_eq h1 ?_)
    cases hp : p r with
    | true =>
      rw [if_pos rfl, List.filter_cons_of_pos hp]
      refine T.bind_eq h2 ?_
      show (if topBor (tiD r) = true then _ else _) = _
      rw [if_neg (show ¬ topBor (tiD r) = true from Bool.noConfusion)]
      exact T.bind_eq ih rfl
    | false =>
      rw [if_neg Bool.noConfusion, List.filter_cons_of_neg (by rw [hp]; exact Bool.noConfusion)]
      exact ih
theorem compF {src : Env → T (List D)} {cond : Env → T Bool} {elt : Env → T D} {v : Nat} {rs : List (List Int)} (p : List Int → Bool) (h : src env = .ret (rs.map tiD)) (hl : rs.length ≤ 1000000) (hg : ∀ r ∈ rs, cond ((wipeE env [v]).set v (some (tiD r))) = .ret (p r) ∧ elt ((wipeE env [v]).set v (some (tiD r))) = .ret (tiD r)) :
    compE src (tgN v) cond elt [v] env = .ret (rowD .own (rs.filter p)) := by
  refine T.bind_eq h ?_
  rw [if_pos (by rw [List.length_map]; exact hl)]
  exact T.bind_eq (compL_filter p hg) rfl
theorem zip_mem : ∀ {xs ys : List D} {d : D}, d ∈ zipD xs ys → ∃ (k : Nat) (x y : D), xs[k]? = some x ∧ ys[k]? = some y ∧ d = .tup [x, y]
  | [], _, _, h => by simp [zipD] at h
  | x :: xs, [], _, h => by simp [zipD] at h
  | x :: xs, y :: ys, d, h => by
    unfold zipD at h
    rcases List.mem_cons.mp h with rfl | h
    · exact ⟨0, x, y, rfl, rfl, rfl⟩
    · obtain ⟨k, a, b, h1, h2, h3⟩ := zip_mem h
      exact ⟨k + 1, a, b, h1, h2, h3⟩
theorem en_mem {xs : List D} {d : D} (h : d ∈ enD xs) : ∃ (k : Nat) (x : D), xs[k]? = some x ∧ d = .tup [.int k, x] := by
  obtain ⟨k, a, b, h1, h2, h3⟩ := zip_mem (show d ∈ zipD (rgD 0 xs.length) xs from h)
  have hk := (List.getElem?_eq_some_iff.mp h2).1
  rw [rgD_at (by omega)] at h1
  cases h1
  refine ⟨k, b, h2, ?_⟩
  rw [h3, Int.zero_add]
theorem lst_eq {ds : List D} {f : Fl} (hl : ds.length ≤ 1000) (hf : (if ds.any topBor then Fl.bor else .own) = f) : lstD ds = .ret (.lst f ds) := (if_pos hl).trans (by rw [hf])
theorem twoNe {a b : Env → T D} {x y : D} (ha : a env = .ret x) (hb : b env = .ret y) (hs : isSeqD x = true) (ht : isSeqD y = true) (h1 : reprOk x = true) (h2 : reprOk y = true) (e : toP x = toP y) :
    testE (bin2 D.ne (callN (one D.repr) (argsN a args0)) (callN (one D.repr) (argsN b args0))) env = .ret false :=
  testE_eq (bin2_eq (callN_eq (argsN_eq ha rfl) (repr_ok hs h1)) (callN_eq (argsN_eq hb rfl) (repr_ok ht h2)) (ne_repr h1 h2 e))
end
end Dn

set_option Elab.async false
set_option linter.all false
set_option maxRecDepth 100000
namespace Dn
open PySem PySem.Spec PyProof.Rows L2
/-! ## a law's own words about a pot that it has just made -/
section
variable {K : PySem.W.Frag} {X : Cx}
theorem pe_any {e : Expr} {de : Env → T D} (h : ∀ G : Gh, PE X e (RdE X.K G de)) : PE X e (fun σ H Q => ∃ G : Gh, RdE X.K G de σ H Q) := ⟨fun pins s σ H Q I ⟨G, q⟩ => (h G).run pins s σ H Q I q⟩
def potE (m i : Nat) : Env := (List.replicate m none).set i (some .pot)
theorem st_pot {m i : Nat} {p : Addr} {σ : L2.St} {H : Hp} (hl : σ.length = m) (hi : σ[i]? = some (some (.ref p))) (hp : PotObj (H p)) : StRel K ⟨H, some p, fun _ => False⟩ (fun _ => False) (potE m i) σ H := by
  have hs : ∀ q, some p = some q → PotObj (H q) := by rintro q ⟨⟩; exact hp
  refine ⟨fun _ => [], by rw [hl]; unfold potE; rw [List.length_set, List.length_replicate], fun j d e => ?_, fun _ => List.nodup_nil, (fun _ _ _ h => nomatch h), (fun _ _ h => nomatch h), fun _ z => z.elim, ⟨fun _ _ _ h => h⟩, hs, hs, fun _ z => z.elim, fun _ z => z.elim⟩
  unfold potE at e
  by_cases c : i = j
  · subst c
    have hm : i < m := by rw [← hl]; exact (List.getElem?_eq_some_iff.mp hi).1
    rw [List.getElem?_set_self (by rw [List.length_replicate]; exact hm)] at e
    cases e
    exact ⟨_, hi, .pot rfl .nil⟩
  · rw [List.getElem?_set_ne c, List.getElem?_replicate] at e
    split at e <;> cases e
theorem rd_pot {m i : Nat} {p : Addr} {a b : Int} {σ : L2.St} {H : Hp} {de : Env → T D} {Q : VK} (hE : Hd (de (potE m i)) fun d => d = .bl true) (hl : σ.length = m) (hi : σ[i]? = some (some (.ref p))) (hp : H p = some (.lst [.int a, .int b])) (ha : 0 ≤ a) (hb : 0 ≤ b) (hb2 : b < 4294967296)
    (k : ∀ H' : Hp, (∀ q o, q ≠ p → H q = some o → H' q = some o) → Q (.bl true) H') : ∃ G : Gh, RdE K G de σ H Q := by
  refine ⟨⟨H, some p, fun _ => False⟩, fun _ => False, potE m i, st_pot hl hi ⟨a, b, hp, ha, hb, hb2⟩, hE.ok.mono fun d e Z' v H' F o => ?_⟩
  subst e
  have ev := bl_val o.tmp
  subst ev
  exact k H' fun q ob hq e => o.go.grow.keep q ob (fun z => hq (by cases z; rfl)) e
end
end Dn

set_option Elab.async false
set_option linter.all false
set_option maxRecDepth 100000
namespace Dn
open PySem PySem.Spec PyProof.Rows L2
/-! ## dicts whose keys are tuples of whole numbers: the object -/
abbrev tiK (P : Program) (w : World) := tupleKind (PySem.intKind P w)
def xs3 (ks : List (Addr × List Int)) (us : List Value) : List (List Int × Addr × Value) := List.zipWith (fun k u => (k.2, k.1, u)) ks us
theorem xs3_len {ks : List (Addr × List Int)} {us : List Value} (h : ks.length = us.length) : (xs3 ks us).length = ks.length := by unfold xs3; rw [List.length_zipWith, h, Nat.min_self]
theorem xs3_at {ks : List (Addr × List Int)} {us : List Value} {x : List Int × Addr × Value} (h : x ∈ xs3 ks us) : (x.2.1, x.1) ∈ ks := by
  obtain ⟨i, hi⟩ := List.getElem?_of_mem h
  unfold xs3 at hi
  rw [List.getElem?_zipWith] at hi
  cases e1 : ks[i]? with
  | none => rw [e1] at hi; cases hi
  | some k =>
    cases e2 : us[i]? with
    | none => rw [e1, e2] at hi; cases hi
    | some u =>
      rw [e1, e2] at hi
      cases hi
      exact List.mem_of_getElem? e1
theorem xs3_fst : ∀ {ks : List (Addr × List Int)} {us : List Value}, ks.length = us.length → (xs3 ks us).map (·.1) = ks.map (·.2)
  | [], [], _ => rfl
  | [], _ :: _, h => by cases h
  | _ :: _, [], h => by cases h
  | k :: ks, u :: us, h => by
    have := xs3_fst (ks := ks) (us := us) (Nat.succ.inj h)
    unfold xs3 at this ⊢
    rw [List.zipWith_cons_cons, List.map_cons, List.map_cons, this]
/-- the dict at p with what is known of its keys -/
def DicH (K : PySem.W.Frag) (H : Hp) (p : Addr) (ks : List (Addr × List Int)) (ws : List V) : Prop := H p = some (DicO p ks ws) ∧ ∀ k ∈ ks, SqT K H k.1 (k.2.map V.int)
section
variable {X : Cx} {pins : List (Addr × Obj)} {σ : L2.St} {H : Hp} {s : Shared} {p : Addr} {ks : List (Addr × List Int)} {ws : List V}
theorem dic_raw (I : Inv X pins σ H s) (h : DicH X.K H p ks ws) : ∃ us, Vals ws us ∧ (p == sysModules) = false ∧ ks.length ≤ sizeLine ∧ ks.length = us.length ∧ s.heap.DictOfH (tiK X.prog X.w) p (xs3 ks us) := by
  obtain ⟨h1, h2⟩ := h
  obtain ⟨hd, hz, hl, nd, o, es, ep, us, ho, hex, hdt, rv, he⟩ := (show DicR p ks ws s.heap from (I.hok p _ h1).1)
  have hu : ks.length = us.length := hl.trans rv.length
  refine ⟨us, rv, hd, hz, hu, o, es, ep, ho, hex, hdt, ?_, fun x hx => I.isT (h2 _ (xs3_at hx)), by rw [xs3_fst hu]; exact nd⟩
  rw [he]
  unfold xs3
  rw [List.map_zipWith]
  rfl
/-- what the raw dict says, told again -/
theorem dic_back {P : Program} {w : World} {h : Heap} {xs : List (List Int × Addr × Value)} (hd : (p == sysModules) = false) (hz : xs.length ≤ sizeLine) (rv : Vals ws (xs.map (·.2.2))) (x : h.DictOfH (tiK P w) p xs) : DicR p (xs.map fun x => (x.2.1, x.1)) ws h := by
  obtain ⟨o, es, ep, ho, hex, hdt, he, hkk, nd⟩ := x
  refine ⟨hd, by rw [List.length_map]; exact hz, ?_, by rw [List.map_map]; exact nd, o, es, ep, _, ho, hex, hdt, rv, ?_⟩
  · rw [List.length_map, rv.length, List.length_map]
  · rw [he]
    clear he nd rv hz hkk
    induction xs with
    | nil => rfl
    | cons x xs ih => rw [List.map_cons, List.map_cons, List.map_cons, List.zipWith_cons_cons, ih]; rfl
theorem dic_ok {P : Program} {w : World} {H : Hp} {h : Heap} (r : DicR p ks ws h) : ObjOk P w H h p (DicO p ks ws) := by
  obtain ⟨_, _, _, _, o, _, _, _, ho, _⟩ := id r
  refine ⟨r, ⟨o, ho⟩, fun h1 h2 q k => ?_⟩
  obtain ⟨a1, a2, a3, a4, o, es, ep, us, ho, rest⟩ := (show DicR p ks ws h1 from q)
  exact (show DicR p ks ws h2 from ⟨a1, a2, a3, a4, o, es, ep, us, k _ ho, rest⟩)
theorem dic_empty {P : Program} {w : World} {H : Hp} (h : Heap) (hb : sysModules < h.objs.size) : ObjOk P w H (h.push { cls := .type "dict", data := .dict #[] }) h.objs.size (DicO h.objs.size [] []) :=
  dic_ok ⟨beq_eq_false_iff_ne.mpr (Ne.symm (Nat.ne_of_lt hb)), Nat.zero_le _, rfl, List.nodup_nil, _, #[], 0, [], Heap.get?_push_size _ rfl, ⟨rfl, rfl, rfl⟩, rfl, .nil, rfl⟩
/-- {} -/
def tDNewX : TE := fun _ H Q => ∀ p, H p = none → Q (.ref p) (upd H p (DicO p [] []))
theorem pe_dnewX {pos : Pos} : PE X (.Dict [] [] pos) tDNewX := ⟨fun pins s σ H Q I h =>
  wpAny_Dict_empty ⟨.ref s.heap.objs.size, _, I.laid (a := s.heap.objs.size) (o := DicO s.heap.objs.size [] []) (t' := s.toks) (fun _ _ q => Heap.get?_push_of_some _ q) (Nat.le_refl _) (dic_empty s.heap I.big), rfl, h _ (I.hok.fresh (Nat.le_refl _))⟩⟩
/-- at the key k -/
def dAt (ks : List (Addr × List Int)) (ws : List V) (k : List Int) : Option V := ((ks.zip ws).find? fun x => decide (x.1.2 = k)).map (·.2)
theorem at_rel : ∀ {ks : List (Addr × List Int)} {ws : List V} {us : List Value} (k : List Int), Vals ws us → ks.length = us.length → match dAt ks ws k, atKey (xs3 ks us) k with
    | none, none => True
    | some v, some q => RelV v q.2
    | _, _ => False
  | [], ws, us, k, rv, hl => by
    cases us with
    | nil => exact trivial
    | cons _ _ => cases hl
  | q :: ks, ws, us, k, rv, hl => by
    cases rv with
    | nil => cases hl
    | cons r t =>
      have ih := at_rel (ks := ks) k t (Nat.succ.inj hl)
      unfold dAt atKey xs3 at ih ⊢
      rw [List.zip_cons_cons, List.zipWith_cons_cons, List.find?_cons, List.find?_cons]
      by_cases c : q.2 = k
      · rw [decide_eq_true c]; exact r
      · rw [decide_eq_false c]; exact ih
theorem at_some {ks : List (Addr × List Int)} {ws : List V} {us : List Value} {k : List Int} (rv : Vals ws us) (hl : ks.length = us.length) : (atKey (xs3 ks us) k).isSome = (dAt ks ws k).isSome := by
  have := at_rel k rv hl
  cases h1 : dAt ks ws k <;> cases h2 : atKey (xs3 ks us) k <;> rw [h1, h2] at this <;> first | rfl | exact this.elim
theorem at_val {ks : List (Addr × List Int)} {ws : List V} {us : List Value} {k : List Int} {v : V} (rv : Vals ws us) (hl : ks.length = us.length) (e : dAt ks ws k = some v) : ∃ q, atKey (xs3 ks us) k = some q ∧ RelV v q.2 := by
  have := at_rel k rv hl
  rw [e] at this
  cases h2 : atKey (xs3 ks us) k with
  | none => rw [h2] at this; exact this.elim
  | some q => rw [h2] at this; exact ⟨q, rfl, this⟩
/-- y in d, y not in d -/
def rInX (K : PySem.W.Frag) (neg : Bool) : R2 := fun x y H Q => ∃ (b p : Addr) (k : List Int) (ks : List (Addr × List Int)) (ws : List V), x = .ref b ∧ y = .ref p ∧ SqT K H b (k.map V.int) ∧ DicH K H p ks ws ∧ Q (.bl (neg ^^ (dAt ks ws k).isSome)) H
theorem op_inX (hu : X.A.units + 65 < cLine) : OpR X (compareOp .In) (rInX X.K false) := by
  intro pins s σ H x y v u Q I rx ry h
  obtain ⟨b, p, k, ks, ws, rfl, rfl, hb, hd, q⟩ := h
  cases rx
  cases ry
  obtain ⟨us, rv, h1, h2, h3, dd⟩ := dic_raw I hd
  refine wpAny_in_heap (tupleKind_room_in1 (by omega)) (I.isT hb) h1 dd ?_
  rw [at_some rv h3]
  rw [Bool.false_xor] at q
  exact ⟨.bl _, H, I.tok _, rfl, q⟩
theorem op_notInX (hu : X.A.units + 65 < cLine) : OpR X (compareOp .NotIn) (rInX X.K true) := by
  intro pins s σ H x y v u Q I rx ry h
  obtain ⟨b, p, k, ks, ws, rfl, rfl, hb, hd, q⟩ := h
  cases rx
  cases ry
  obtain ⟨us, rv, h1, h2, h3, dd⟩ := dic_raw I hd
  refine wpAny_notIn_heap (tupleKind_room_in1 (by omega)) (I.isT hb) h1 dd ?_
  rw [at_some rv h3]
  rw [Bool.true_xor] at q
  exact ⟨.bl _, H, I.tok _, rfl, q⟩
/-- d[y], there -/
def rIxX (K : PySem.W.Frag) : R2 := fun x y H Q => ∃ (b p : Addr) (k : List Int) (ks : List (Addr × List Int)) (ws : List V) (v : V), x = .ref p ∧ y = .ref b ∧ SqT K H b (k.map V.int) ∧ DicH K H p ks ws ∧ dAt ks ws k = some v ∧ Q v H
theorem getX {A : Around} {E : Value → Shared → Prop} {b : Addr} {k : List Int} {v : V} {Q : Value → Shared → Prop} (hu : A.units + 1 < cLine) (I : Inv X pins σ H s) (hb : SqT X.K H b (k.map V.int)) (hd : DicH X.K H p ks ws) (e : dAt ks ws k = some v) (h : ∀ w' s', Inv X pins σ H s' → RelV v w' → Q w' s') :
    wpAny (model X.prog X.w) A (getItem (.ref p) (.ref b)) Q E s := by
  obtain ⟨us, rv, h1, h2, h3, dd⟩ := dic_raw I hd
  obtain ⟨q, hq, rq⟩ := at_val rv h3 e
  exact wpAny_getItem_heap (tupleKind_room_in1 hu) (I.isT hb) dd hq (h q.2 _ (I.tok _) rq)
theorem ix_dicX (hu : X.A.units + 65 < cLine) : IxR X (rIxX X.K) := by
  intro value slice pins s σ H x y v u Q I rx ry h hs
  obtain ⟨b, p, k, ks, ws, r, rfl, rfl, hb, hd, e, q⟩ := h
  cases rx
  cases ry
  have hT : s.TypeIs (.ref p) "dict" := let ⟨us, rv, h1, h2, h3, dd⟩ := dic_raw I hd; dd.typeIs
  unfold subscriptTail
  refine wpAny_bind ?_
  rw [PySem.getitemInPython_of_ne (hT.not_modules)]
  refine wpAny_bind (wpAny_specialOf hT (PySem.F.slot_dict_getitem.lookup) ?_)
  have fn0 : wpAny (model X.prog X.w) X.A (subscripted slice false (.ref p) (.ref b)) (fun r s₃ => wpAny (model X.prog X.w) X.A (letTemporaryGo value (.ref p) r >>= fun _ => pure r) (EP X pins σ Q) X.xe s₃) X.xe s := by
    rw [hs]
    exact wpAny_operating (getX (by omega) I hb hd e fun w' s' I' rw' => wpAny_bind (wpAny_letTemporaryGo (wpAny_pure ⟨r, H, I', rw', q⟩)))
  first
    | exact wpAny_pure (wpAny_bind fn0)
    | exact wpAny_bind (wpAny_pure (wpAny_bind fn0))
    | exact wpAny_bind fn0
/-- where it stands, where it is put -/
def dPutK (ks : List (Addr × List Int)) (b : Addr) (k : List Int) : List (Addr × List Int) := if k ∈ ks.map (·.2) then ks else ks ++ [(b, k)]
def dPutV (ks : List (Addr × List Int)) (ws : List V) (k : List Int) (v : V) : List V := if k ∈ ks.map (·.2) then List.zipWith (fun q w => if q.2 = k then v else w) ks ws else ws ++ [v]
theorem dAt_some {ks : List (Addr × List Int)} {ws : List V} {k : List Int} (hl : ks.length = ws.length) : (dAt ks ws k).isSome = decide (k ∈ ks.map (·.2)) := by
  induction ks generalizing ws with
  | nil => cases ws <;> rfl
  | cons q ks ih =>
    cases ws with
    | nil => cases hl
    | cons w ws =>
      have ih := ih (ws := ws) (Nat.succ.inj hl)
      unfold dAt at ih ⊢
      rw [List.zip_cons_cons, List.find?_cons]
      by_cases c : q.2 = k
      · simp [c]
      · have c' : ¬ k = q.2 := fun e => c e.symm
        simp only [decide_eq_false c, List.map_cons, List.mem_cons, c', false_or]
        exact ih
theorem stored_put {b : Addr} {k : List Int} {v : V} {u : Value} : ∀ {ks : List (Addr × List Int)} {ws : List V} {us : List Value}, Vals ws us → ks.length = us.length → (ks.map (·.2)).Nodup → RelV v u →
    ∃ xs, storedH (xs3 ks us) k b u = xs ∧ (xs.map fun x => (x.2.1, x.1)) = dPutK ks b k ∧ Vals (dPutV ks ws k v) (xs.map (·.2.2)) := by
  intro ks ws us rv hl nd ru
  refine ⟨_, rfl, ?_⟩
  have hw : ks.length = ws.length := hl.trans rv.length.symm
  have hs := at_some (k := k) rv hl
  rw [dAt_some hw] at hs
  unfold storedH dPutK dPutV
  by_cases c : k ∈ ks.map (·.2)
  · rw [if_pos c, if_pos c, hs, decide_eq_true c, if_pos rfl]
    clear hs c nd
    induction ks generalizing ws us with
    | nil => cases us with
      | nil => exact ⟨rfl, .nil⟩
      | cons _ _ => cases hl
    | cons q ks ih =>
      cases rv with
      | nil => cases hl
      | cons r t =>
        obtain ⟨i1, i2⟩ := ih t (Nat.succ.inj hl) (Nat.succ.inj hw)
        unfold xs3 at i1 i2 ⊢
        rw [List.zipWith_cons_cons, List.map_cons, List.map_cons, List.map_cons, List.zipWith_cons_cons]
        rw [show ∀ x : List Int × Addr × Value, PySem.putAt k u x = if x.1 = k then (x.1, x.2.1, u) else x from fun _ => rfl]
        by_cases e : q.2 = k
        · rw [if_pos e, if_pos e]
          exact ⟨by rw [i1], .cons ru i2⟩
        · rw [if_neg e, if_neg e]
          exact ⟨by rw [i1], .cons r i2⟩
  · rw [if_neg c, if_neg c, hs, decide_eq_false c, if_neg Bool.noConfusion]
    clear hs c nd
    rw [List.map_append, List.map_append]
    have e1 : (xs3 ks us).map (fun x => (x.2.1, x.1)) = ks ∧ Vals ws ((xs3 ks us).map (·.2.2)) := by
      clear hw
      induction ks generalizing ws us with
      | nil => cases us with
        | nil => cases rv; exact ⟨rfl, .nil⟩
        | cons _ _ => cases hl
      | cons q ks ih =>
        cases rv with
        | nil => cases hl
        | cons r t =>
          obtain ⟨i1, i2⟩ := ih t (Nat.succ.inj hl)
          unfold xs3 at i1 i2 ⊢
          rw [List.zipWith_cons_cons, List.map_cons, List.map_cons]
          exact ⟨by rw [i1], .cons r i2⟩
    refine ⟨by rw [e1.1]; rfl, ?_⟩
    exact Vals.append e1.2 (.cons ru .nil)
theorem dPutK_len (ks : List (Addr × List Int)) (b : Addr) (k : List Int) : (dPutK ks b k).length ≤ ks.length + 1 := by
  unfold dPutK
  split
  · omega
  · rw [List.length_append]; exact Nat.le_refl _
/-- d[y] = v -/
theorem putX {A : Around} {E : Value → Shared → Prop} {b : Addr} {k : List Int} {v : V} {u : Value} {Q : Unit → Shared → Prop} (hu : A.units + 1 < cLine) (I : Inv X pins σ H s) (hb : SqT X.K H b (k.map V.int)) (hd : DicH X.K H p ks ws) (hz : ks.length < sizeLine) (ru : RelV v u)
    (h : ∀ s', Inv X pins σ (upd H p (DicO p (dPutK ks b k) (dPutV ks ws k v))) s' → Q () s') : wpAny (model X.prog X.w) A (setItem (.ref p) (.ref b) u) Q E s := by
  obtain ⟨us, rv, h1, h2, h3, dd⟩ := dic_raw I hd
  have nd : (ks.map (·.2)).Nodup := (show DicR p ks ws s.heap from (I.hok p _ hd.1).1).2.2.2.1
  refine wpAny_setItem_heap (hsz := by rw [xs3_len h3]; exact h2) (tupleKind_room_in1 hu) (I.isT hb) dd fun h' dd' hs => h _ ?_
  obtain ⟨xs, ex, e1, e2⟩ := stored_put (b := b) (k := k) rv h3 nd ru
  rw [ex] at dd'
  have he : ∃ q, h'.get? p = some q := let ⟨q, _, _, hq, _⟩ := dd'; ⟨q, hq⟩
  have hl : xs.length ≤ sizeLine := by
    have := congrArg List.length e1
    rw [List.length_map] at this
    have := dPutK_len ks b k
    omega
  have r := dic_back h1 hl e2 dd'
  rw [e1] at r
  exact d_write I (by rw [hd.1]; exact True.intro) hs he (dic_ok r)
end
end Dn

set_option Elab.async false
set_option linter.all false
set_option maxRecDepth 100000
set_option maxHeartbeats 600000
namespace Dn
open PySem PySem.Spec PyProof.Rows L2
/-! ## dicts in slots -/
theorem DObj.nfz {p : Addr} {keys : List D} {kws ws : List V} {ob : HO} (h : DObj p keys kws ws ob) : ∀ o u, ob ≠ .frz o u := by
  intro o u z
  cases h
  unfold DicO at z
  cases z
section
variable {K : PySem.W.Frag} {G : Gh} {Z Z' Z0 Z1 Z2 : Addr → Prop} {H H' H0 H1 H2 : Hp} {F F1 F2 : List Addr} {d : D} {v : V} {env : Env} {σ : L2.St} {Fs : Nat → List Addr}
theorem StF.mutD (S : StF K G Z env σ H Fs) {i : Nat} {xs : List (D × D)} (e : env[i]? = some (some (.dic .own xs))) :
    ∃ p ob kws ws F', σ[i]? = some (some (.ref p)) ∧ H p = some ob ∧ DObj p (xs.map (·.1)) kws ws ob ∧ RepL K (G.zs Z) H .own (kvL xs) (kws ++ ws) F' ∧ Fs i = p :: (F' ++ []) ∧
      ∀ Z1 H1 ys kus us ob' F'', Go G Z H Z1 H1 → DObj p (ys.map (·.1)) kus us ob' → RepL K (G.zs Z1) H1 .own (kvL ys) (kus ++ us) F'' → (∀ q ∈ F'', q ∈ F' ∨ (H q = none ∧ ¬ Z1 q ∧ some q ≠ G.pot)) → F''.Nodup →
        StF K G Z1 (env.set i (some (.dic .own ys))) σ (upd H1 p ob') (fun j => if j = i then p :: (F'' ++ []) else Fs j) ∧ Keep K G Z H Z1 (upd H1 p ob') := by
  obtain ⟨v, ev, r⟩ := S.at_ i _ e
  generalize eF0 : Fs i = Fi at r
  cases r with
  | sc e1 _ => simp [scV] at e1
  | dshr e0 e1 =>
    have : (some Fl.own) = some _ := e0
    cases this
    exact e1.elim
  | @down m f p ob xs kws ws ds vs F2 F' e1 e2 e3 h1 h =>
    cases h
    have eF := eF0.symm
    have hp : p ∈ Fs i := by rw [← eF]; exact List.mem_cons_self
    have hF' : ∀ q ∈ F', q ∈ Fs i := fun q hq => by rw [← eF]; simp [hq]
    obtain ⟨pn0, pnz, pnp, pk⟩ := S.new i p hp
    refine ⟨p, ob, kws, ws, F', ev, e2, e3, h1, by first | rfl | exact eF.symm, fun Z1 H1 ys kus us ob' F'' g dob r hq nd => ?_⟩
    have S1 := S.go g
    have pnz1 : ¬ Z1 p := fun z => (g.znew p z).elim pnz pk
    have hnF : p ∉ F'' := fun hp' => by
      rcases hq p hp' with z | z
      · have := S.nd i
        rw [← eF] at this
        exact (List.nodup_cons.mp this).1 (by simp [z])
      · exact pk z.1
    -- nothing but the slot leans on p
    have ne : ∀ q, Z1 q ∨ G.za q → q ≠ p := fun q h z => by
      subst z
      exact h.elim pnz1 fun a => a.1 pn0
    have H1p : H1 p = some ob := g.grow.keep p _ pnp e2
    have nfz : ∀ o u, ob ≠ .frz o u := e3.nfz
    have sqt : ∀ q zs, TupX K H1 q zs → TupX K (upd H1 p ob') q zs := fun q zs h => by
      rcases h with ⟨o, n, h⟩ | h
      · exact .inl ⟨o, n, by rw [upd_ne (fun z => by subst z; rw [H1p] at h; exact nfz _ _ (Option.some.inj h))]; exact h⟩
      · exact .inr h
    have carry : ∀ {m ds vs F}, RepL K (G.zs Z1) H1 m ds vs F → p ∉ F → RepL K (G.zs Z1) (upd H1 p ob') m ds vs F := fun h hn =>
      h.carry (fun _ z => z) (fun _ z => z) (fun _ _ z => z) (fun _ z => z) (fun q o l e => by
        rw [upd_ne]
        · exact e
        · rintro rfl
          rcases l with l | l | l | l
          · exact hn l
          · exact ne _ (.inl l) rfl
          · exact ne _ (.inr l) rfl
          · exact l.2) sqt
    constructor
    · refine ⟨by simp [S.len], fun j d e' => ?_, fun j => ?_, fun j k q a b => ?_, fun j q a => ?_, fun q z => ?_, ⟨fun q o n h => ?_⟩, fun q eq => ?_, S.pot0, S1.z0, S1.zn⟩
      · by_cases hj : j = i
        · subst hj
          have hl : j < env.length := (List.getElem?_eq_some_iff.mp e).1
          rw [List.getElem?_set] at e'
          simp only [if_true, hl] at e'
          injection e' with e'
          injection e' with e'
          subst e'
          refine ⟨.ref p, ev, ?_⟩
          simp only [if_true]
          exact .down rfl upd_same dob (carry r hnF) .nil
        · rw [List.getElem?_set_ne (Ne.symm hj)] at e'
          obtain ⟨w, a, b⟩ := S1.at_ j d e'
          refine ⟨w, a, ?_⟩
          simp only [hj, if_false]
          exact carry b fun hpj => hj (S.one j i p hpj hp)
      · by_cases hj : j = i
        · simp only [hj, if_true, List.append_nil]
          exact List.nodup_cons.mpr ⟨hnF, nd⟩
        · simp only [hj, if_false]
          exact S.nd j
      · have key : ∀ k q, k ≠ i → q ∈ p :: (F'' ++ []) → q ∉ Fs k := fun k q hk hq' hk' => by
          rcases List.mem_cons.mp hq' with rfl | hq'
          · exact hk (S.one k i _ hk' hp)
          · rw [List.append_nil] at hq'
            rcases hq q hq' with z | z
            · exact hk (S.one k i _ hk' (hF' q z))
            · exact (S.new k q hk').2.2.2 z.1
        by_cases hj : j = i <;> by_cases hk : k = i
        · rw [hj, hk]
        · simp only [hj, if_true] at a
          simp only [hk, if_false] at b
          exact absurd b (key k q hk a)
        · simp only [hk, if_true] at b
          simp only [hj, if_false] at a
          exact absurd a (key j q hj b)
        · simp only [hj, if_false] at a
          simp only [hk, if_false] at b
          exact S.one j k q a b
      · by_cases hj : j = i
        · simp only [hj, if_true] at a
          rcases List.mem_cons.mp a with rfl | a
          · exact ⟨pn0, pnz1, pnp, by rw [upd_same]; simp⟩
          · rw [List.append_nil] at a
            obtain ⟨o, eo⟩ := r.fp q a
            have hne : q ≠ p := fun z => hnF (z ▸ a)
            rcases hq q a with z | z
            · have := S1.new i q (hF' q z)
              exact ⟨this.1, this.2.1, this.2.2.1, by rw [upd_ne hne, eo]; simp⟩
            · exact ⟨S.grow.back z.2.2 z.1, z.2.1, z.2.2, by rw [upd_ne hne, eo]; simp⟩
        · simp only [hj, if_false] at a
          have := S1.new j q a
          exact ⟨this.1, this.2.1, this.2.2.1, by rw [upd_ne (fun z => hj (S.one j i q a (by rw [z]; exact hp)))]; exact this.2.2.2⟩
      · rw [upd_ne (ne q (.inl z))]
        exact S1.zf q z
      · rw [upd_ne (fun z => by subst z; rw [pn0] at h; cases h)]
        exact S1.grow.keep q o n h
      · rw [upd_ne (fun z => by subst z; exact pnp eq.symm)]
        exact S1.pot q eq
    · refine ⟨g.zle, fun q o z h => ?_, fun q zs h => sqt q zs (g.sqt h)⟩
      rw [upd_ne (ne q (.inl (g.zle q z)))]
      exact g.grow.keep q o (g.zA q z).2 h
end
/-- the keys apart from the values -/
theorem keys_rep {K : PySem.W.Frag} {Z : Zs} {H : Hp} {m : Fl} {ds : List D} {ws : List V} {F : List Addr} : ∀ {ks : List (Addr × List Int)}, RepL K Z H m ((ks.map fun k => D.tup (k.2.map .int)) ++ ds) ((ks.map fun k => V.ref k.1) ++ ws) F → (∀ k ∈ ks, TupX K H k.1 (k.2.map V.int)) ∧ RepL K Z H m ds ws F
  | [], h => ⟨fun _ z => (List.not_mem_nil z).elim, h⟩
  | k :: ks, h => by
    obtain ⟨F1, F2, e, h1, h2⟩ := RepL.uncons h
    obtain ⟨i1, i2⟩ := keys_rep h2
    cases h1 with
    | sc e1 _ => simp [scV] at e1
    | tup e1 r1 r2 =>
      obtain ⟨_, rfl⟩ := r2.nil_inv
      have ew := rep_ints r1 k.2 (Dn.ints_of k.2)
      rw [ew] at e1
      subst e
      exact ⟨fun q hq => (List.mem_cons.mp hq).elim (fun z => by rw [z]; exact e1) (i1 q), i2⟩
theorem keys_put {K : PySem.W.Frag} {Z : Zs} {H : Hp} {m : Fl} {ds : List D} {ws : List V} {F : List Addr} : ∀ {ks : List (Addr × List Int)}, (∀ k ∈ ks, TupX K H k.1 (k.2.map V.int)) → RepL K Z H m ds ws F → RepL K Z H m ((ks.map fun k => D.tup (k.2.map .int)) ++ ds) ((ks.map fun k => V.ref k.1) ++ ws) F
  | [], _, h => h
  | k :: ks, a, h => .tup (a k List.mem_cons_self) (rep_int k.2) (keys_put (fun q hq => a q (List.mem_cons_of_mem _ hq)) h)
/-- a dict's keys, all of them tuples of whole numbers -/
def keyD : D → Option (List Int)
  | .tup xs => intsOf xs
  | _ => none
theorem keyD_eq {d : D} {k : List Int} (h : keyD d = some k) : d = tiD k := by
  cases d <;> first | (cases h; done) | skip
  exact (intsOf_eq h) ▸ rfl
section
variable {K : PySem.W.Frag} {G : Gh} {X : Cx}
theorem OpOut.dic0 {Z : Addr → Prop} {H : Hp} {F : List Addr} {p : Addr} (pr : Pre K G Z H F) (n : H p = none) : OpOut K G Z H F (.dic .own []) Z (.ref p) (upd H p (DicO p [] [])) [p] where
  grow := .mk1 n
  potB := upd_pot pr.pot n
  zle := fun _ h => h
  znew := fun q h => .inl h
  zB := fun q h => ⟨upd_ne_none (pr.zf q h).1, (pr.zf q h).2⟩
  tmp := .inr ⟨rfl, .down (kvs := []) (kws := []) (ws := []) (F := []) (F' := []) rfl upd_same (.x (ks := []) (vs := []) rfl) .nil .nil⟩
  own := fun q h => by
    rcases List.mem_cons.mp h with rfl | h
    · exact ⟨.inl n, fun z => (pr.zf _ z).1 n, ne_pot pr.pot n⟩
    · cases h
  nd := List.nodup_cons.mpr ⟨fun h => (List.not_mem_nil h).elim, List.nodup_nil⟩
theorem ee_dic0 {pos : Pos} : PE X (.Dict [] [] pos) (RdE X.K G (con (.dic .own []))) := PE.imp pe_dnewX fun σ H Q h => by
  obtain ⟨Z, env, S, q⟩ := h
  intro p n
  have S' := S
  obtain ⟨Fs, S0⟩ := S'
  exact q Z _ _ _ ((OpOut.dic0 (K := X.K) (G := G) ⟨S0.pot, S0.zf, fun _ z => (List.not_mem_nil z).elim, .nil, S0.grow⟩ n).ex S.goR ⟨fun _ z => (List.not_mem_nil z).elim, .nil⟩)
/-- in, of dicts too -/
def inX (neg : Bool) (d : D) : D → T D
  | .dic _ kvs => (T.ofO (keyD d)).bind fun k => (T.ofO (tisOf (kvs.map (·.1)))).bind fun nss => .ret (.bl (neg ^^ decide (k ∈ nss)))
  | y => inList neg d y
theorem dic_read {Z : Addr → Prop} {H : Hp} {F Fin : List Addr} {f : Fl} {kvs : List (D × D)} {v : V} (t : Tmp K G Z H (.dic f kvs) v F) : ∃ p ks ws F', v = .ref p ∧ kvs.map (·.1) = (ks.map fun k => D.tup (k.2.map .int)) ∧ ks.length = ws.length ∧ DicH K H p ks ws ∧ RepL K (G.zt Z) H f (kvs.map (·.2)) ws F' ∧ (f ≠ .own → F' = []) ∧ (f = .own → F = p :: F') ∧ (f ≠ .bor → RepL K (G.zs Z) H f (kvs.map (·.2)) ws F') := by
  obtain ⟨p, o, kws, ws, F', e1, e2, b, r, g1, g2, g3⟩ := dic_val t
  unfold kvL at r g3
  generalize hk : kvs.map (·.1) = keys at b r g3
  cases b with
  | @x ks vs hl =>
    obtain ⟨i1, i2⟩ := keys_rep r
    exact ⟨p, ks, ws, F', e1, rfl, hl, ⟨e2, fun k hk => (i1 k hk).sq⟩, i2, g1, g2, fun nb => (keys_rep (g3 nb)).2⟩
theorem keys_tis {kvs : List (D × D)} {ks : List (Addr × List Int)} (h : kvs.map (·.1) = (ks.map fun k => D.tup (k.2.map .int))) {nss : List (List Int)} (e : tisOf (kvs.map (·.1)) = some nss) : nss = ks.map (·.2) := by
  have e1 := tisOf_eq e
  rw [h] at e1
  clear h e
  induction ks generalizing nss with
  | nil => cases nss <;> first | rfl | cases e1
  | cons k ks ih =>
    cases nss with
    | nil => cases e1
    | cons ns nss =>
      rw [List.map_cons, List.map_cons, List.cons.injEq] at e1
      rw [List.map_cons, ← ih e1.2]
      congr 1
      have := e1.1
      unfold tiD at this
      injection this with this
      have h1 := Dn.ints_of k.2
      rw [this, Dn.ints_of] at h1
      exact Option.some.inj h1
theorem o_inX (neg : Bool) : Op2 K G (fun x y H Q => rInA K neg x y H Q ∨ rInX K neg x y H Q) (inX neg) := by
  intro Z H d1 v1 F1 d2 v2 F2 Q t1 t2 p h
  cases d2 with
  | dic f kvs =>
    obtain ⟨k, ek, hh⟩ := mat_o h
    obtain ⟨nss, en, hh⟩ := mat_o hh
    clear h
    have ed := keyD_eq ek
    subst ed
    obtain ⟨pa, ws, e1, s1, r1, _⟩ := tup_val t1
    have ew := rep_ints r1 k (Dn.ints_of k)
    subst ew
    obtain ⟨q, ks, ws2, F', e2, hk, hl, hd, _⟩ := dic_read (Fin := []) t2
    have es := keys_tis hk en
    refine .inr ⟨pa, q, k, ks, ws2, e1, e2, s1.sq, hd, ?_⟩
    rw [dAt_some hl, ← es]
    exact hh Z _ H [] (.bl p _)
  | _ => exact .inl (o_inA neg Z H d1 v1 F1 _ v2 F2 Q t1 t2 p h)
end
end Dn

set_option Elab.async false
set_option linter.all false
set_option maxRecDepth 100000
set_option maxHeartbeats 600000
namespace Dn
open PySem PySem.Spec PyProof.Rows L2
/-! ## d[k], d[k] = v -/
def ixOf : List (List Int) → List Int → Option Nat
  | [], _ => none
  | n :: ns, k => if n = k then some 0 else (ixOf ns k).map (· + 1)
theorem ixOf_at : ∀ {ks : List (Addr × List Int)} {ws : List V} {k : List Int} {j : Nat} {v : V}, ks.length = ws.length → ixOf (ks.map (·.2)) k = some j → ws[j]? = some v → dAt ks ws k = some v
  | [], _, _, _, _, _, h, _ => by cases h
  | q :: ks, [], _, _, _, hl, _, _ => by cases hl
  | q :: ks, w :: ws, k, j, v, hl, h, hv => by
    rw [List.map_cons, ixOf] at h
    unfold dAt
    rw [List.zip_cons_cons, List.find?_cons]
    by_cases c : q.2 = k
    · rw [if_pos c] at h
      cases h
      rw [decide_eq_true c]
      cases hv
      rfl
    · rw [if_neg c] at h
      obtain ⟨i, hi, rfl⟩ := Option.map_eq_some_iff.mp h
      rw [decide_eq_false c]
      exact ixOf_at (ks := ks) (ws := ws) (Nat.succ.inj hl) hi (by simpa using hv)
theorem ixOf_mem : ∀ {ns : List (List Int)} {k : List Int}, (ixOf ns k = none ↔ ¬ k ∈ ns)
  | [], k => by simp [ixOf]
  | n :: ns, k => by
    rw [ixOf, List.mem_cons]
    by_cases c : n = k
    · simp [c]
    · have c' : ¬ k = n := fun e => c e.symm
      rw [if_neg c, Option.map_eq_none_iff, ixOf_mem]
      simp [c']
def D.ixX : D → D → T D
  | .dic f kvs, y => (T.ofO (keyD y)).bind fun k => (T.ofO (tisOf (kvs.map (·.1)))).bind fun nss => (T.ofO (ixOf nss k)).bind fun j => (T.ofO (kvs.map (·.2))[j]?).bind fun d => .ret (takeF f d)
  | x, y => D.ix x y
section
variable {K : PySem.W.Frag} {G : Gh} {X : Cx}
theorem o_ixX : Op2 K G (fun x y H Q => rIx K x y H Q ∨ rIxX K x y H Q) D.ixX := by
  intro Z H d1 v1 F1 d2 v2 F2 Q t1 t2 p h
  cases d1 with
  | dic f kvs =>
    obtain ⟨k, ek, a1⟩ := mat_o h
    obtain ⟨nss, en, a2⟩ := mat_o a1
    obtain ⟨j, ej, a3⟩ := mat_o a2
    obtain ⟨d, e, a4⟩ := mat_o a3
    clear h a1 a2 a3
    have ed := keyD_eq ek
    subst ed
    obtain ⟨pb, wsb, eb, sb, rb, _⟩ := tup_val t2
    have ew := rep_ints rb k (Dn.ints_of k)
    subst ew
    obtain ⟨pa, ks, ws, F', e1, hk, hl, hd, r1, g1, g2, g3⟩ := dic_read (Fin := []) t1
    have es := keys_tis hk en
    subst es
    refine .inr ⟨pb, pa, k, ks, ws, ?_⟩
    by_cases ef : f = .own
    · subst ef
      have rs := g3 (by decide)
      obtain ⟨w, F0, e3, sub, r⟩ := rs.at e
      refine ⟨w, e1, eb, sb.sq, hd, ixOf_at hl ej e3, a4 Z w H F0 (.part p (.inr ⟨?_, r⟩) ?_)⟩
      · cases d with
        | lst g _ => cases g <;> first | rfl | (cases r with
          | sc e _ => simp [scV] at e
          | own e0 _ _ _ => simp [eff] at e0
          | shr e0 e1 _ _ _ => simp [eff] at e0; subst e0; exact e1.elim)
        | dic g _ => cases g <;> first | rfl | (cases r with
          | sc e _ => simp [scV] at e
          | down e0 _ _ _ _ => simp [eff] at e0
          | dshr e0 e1 _ _ _ _ => simp [eff] at e0; subst e0; exact e1.elim)
        | _ => rfl
      · rw [g2 rfl]
        exact (sub.trans (List.sublist_cons_self _ _)).trans (List.sublist_append_left _ _)
    · have e0 := g1 ef
      subst e0
      obtain ⟨w, F0, e3, sub, r⟩ := r1.at e
      have e4 := r.nofp ef
      subst e4
      refine ⟨w, e1, eb, sb.sq, hd, ixOf_at hl ej e3, a4 Z w H [] ?_⟩
      have q : Tmp K G Z H (deg f d) w [] := tmp_out r ef fun nb => by
        obtain ⟨w', F1, e5, _, r'⟩ := (g3 nb).at e
        rw [e3] at e5
        cases e5
        have e6 := r'.nofp ef
        subst e6
        exact r'
      cases f with
      | own => exact absurd rfl ef
      | _ => exact .same p q
  | _ => exact .inl (o_ix Z H _ v1 F1 d2 v2 F2 Q t1 t2 p h)
theorem ee_ixX {a b : Expr} {pos : Pos} {da db : Env → T D} (hu : X.A.units + 65 < cLine) (ha : PE X a (RdE X.K G da)) (hb : PE X b (RdE X.K G db)) (hs : PlainIx b := by exact fun _ _ => rfl) : PE X (.Subscript a b pos) (RdE X.K G (bin2 D.ixX da db)) :=
  PE.imp (pe_ix (ix_seq.or (ix_dicX hu)) ha hb hs) fun _ _ _ h => rd2 o_ixX h
/-! d[k] = v, the values flat -/
def rSetX (K : PySem.W.Frag) : TSet := fun o i v H Q => ∃ (b p : Addr) (k : List Int) (ks : List (Addr × List Int)) (ws : List V), o = .ref p ∧ i = .ref b ∧ SqT K H b (k.map V.int) ∧ DicH K H p ks ws ∧ ks.length < sizeLine ∧ Q (upd H p (DicO p (dPutK ks b k) (dPutV ks ws k v)))
theorem set_dicX (hu : X.A.units + 65 < cLine) : PSet X (rSetX X.K) := by
  intro pins s σ H o i v ov iv u Q I ro ri rv h
  obtain ⟨b, p, k, ks, ws, rfl, rfl, hb, hd, hz, q⟩ := h
  cases ro
  cases ri
  exact putX (by omega) I hb hd hz rv fun s' I' => ⟨_, I', q⟩
def dicAt (env : Env) (i : Nat) : Option (List (D × D)) := match env[i]? with
  | some (some (.dic .own xs)) => some xs
  | _ => none
theorem dicAt_some {env : Env} {i : Nat} {xs : List (D × D)} (h : dicAt env i = some xs) : env[i]? = some (some (.dic .own xs)) := by
  unfold dicAt at h
  split at h
  · rename_i ys e
    cases h
    exact e
  · cases h
/-- the pairs, k put -/
def putD (kvs : List (D × D)) (k : List Int) (nss : List (List Int)) (d : D) : List (D × D) := if k ∈ nss then List.zipWith (fun ns q => if ns = k then (q.1, d) else q) nss kvs else kvs ++ [(tiD k, d)]
def dsetS (i : Nat) (ie e : Env → T D) : SD := fun env => (T.ofO (dicAt env i)).bind fun kvs => (e env).bind fun d => (ie env).bind fun y => (T.ofO (keyD y)).bind fun k => (T.ofO (tisOf (kvs.map (·.1)))).bind fun nss =>
  if flatD d = true ∧ (kvs.map (·.2)).all flatD = true ∧ kvs.length ≤ 1000000 then .ret (.nx (env.set i (some (.dic .own (putD kvs k nss d))))) else .fail
theorem tVarD_of {Z : Addr → Prop} {env : Env} {σ : L2.St} {H : Hp} {i : Nat} {xs : List (D × D)} {Q : VK} (S : StRel K G Z env σ H) (e : env[i]? = some (some (.dic .own xs))) (h : ∀ p, σ[i]? = some (some (.ref p)) → Q (.ref p) H) : tVar i σ H Q := by
  obtain ⟨Fs, S⟩ := S
  obtain ⟨p, ob, kws, ws, F', ev, hp, _⟩ := S.mutD e
  exact ⟨.ref p, ev, h p ev⟩
theorem mutD_of {Z Z1 : Addr → Prop} {env : Env} {σ : L2.St} {H H1 : Hp} {i : Nat} {xs : List (D × D)} (S : StRel K G Z env σ H) (e : env[i]? = some (some (.dic .own xs))) (g : Go G Z H Z1 H1) :
    ∃ p ob kws ws F', σ[i]? = some (some (.ref p)) ∧ H1 p = some ob ∧ DObj p (xs.map (·.1)) kws ws ob ∧ RepL K (G.zs Z1) H1 .own (kvL xs) (kws ++ ws) F' ∧
      ∀ ys kus us ob', DObj p (ys.map (·.1)) kus us ob' → RepL K (G.zs Z1) H1 .own (kvL ys) (kus ++ us) [] → StRel K G Z1 (env.set i (some (.dic .own ys))) σ (upd H1 p ob') ∧ Keep K G Z H Z1 (upd H1 p ob') := by
  obtain ⟨Fs, S⟩ := S
  obtain ⟨p, ob, kws, ws, F', ev, hp, b, r, eF, h⟩ := S.mutD e
  have hF : ∀ q ∈ p :: F', some q ≠ G.pot := fun q hq => (S.new i q (by rw [eF, List.append_nil]; exact hq)).2.2.1
  refine ⟨p, ob, kws, ws, F', ev, g.grow.keep p _ (hF p List.mem_cons_self) hp, b, g.repS r fun q hq => hF q (List.mem_cons_of_mem _ hq), fun ys kus us ob' db r2 => ?_⟩
  obtain ⟨a, b⟩ := h Z1 H1 ys kus us ob' [] g db r2 (fun _ z => (List.not_mem_nil z).elim) .nil
  exact ⟨⟨_, a⟩, b⟩
theorem put_keys {kvs : List (D × D)} {ks : List (Addr × List Int)} (h : kvs.map (·.1) = (ks.map fun k => D.tup (k.2.map .int))) (b : Addr) (k : List Int) (d : D) : (putD kvs k (ks.map (·.2)) d).map (·.1) = ((dPutK ks b k).map fun k => D.tup (k.2.map .int)) := by
  unfold putD dPutK
  split
  · rw [← h]
    rename_i c0
    clear c0
    induction ks generalizing kvs with
    | nil => cases kvs <;> first | rfl | cases h
    | cons q ks ih =>
      cases kvs with
      | nil => cases h
      | cons p kvs =>
        rw [List.map_cons, List.map_cons, List.cons.injEq] at h
        rw [List.map_cons, List.zipWith_cons_cons, List.map_cons, List.map_cons, ih h.2]
        congr 1
        split <;> rfl
  · rw [List.map_append, List.map_append, h]; rfl
theorem put_vals {Zs0 : Zs} {H : Hp} {kvs : List (D × D)} {ks : List (Addr × List Int)} {ws : List V} {k : List Int} {d : D} {v : V} (hl : ks.length = kvs.length) (r : RepL K Zs0 H .own (kvs.map (·.2)) ws []) (rd : RepL K Zs0 H .own [d] [v] []) : RepL K Zs0 H .own ((putD kvs k (ks.map (·.2)) d).map (·.2)) (dPutV ks ws k v) [] := by
  unfold putD dPutV
  split
  · rename_i c0
    clear c0
    induction ks generalizing kvs ws with
    | nil =>
      cases kvs with
      | nil => obtain ⟨rfl, _⟩ := r.nil_inv; exact .nil
      | cons _ _ => cases hl
    | cons q ks ih =>
      cases kvs with
      | nil => cases hl
      | cons p kvs =>
        cases ws with
        | nil => have := r.len; simp at this
        | cons w ws =>
          obtain ⟨F1, F2, e, r1, r2⟩ := RepL.uncons (ds := kvs.map (·.2)) r
          obtain ⟨rfl, rfl⟩ := List.append_eq_nil_iff.mp e.symm
          have := ih (Nat.succ.inj hl) r2
          rw [List.map_cons, List.zipWith_cons_cons, List.map_cons, List.zipWith_cons_cons]
          by_cases c : q.2 = k
          · rw [if_pos c, if_pos c]
            exact RepL.cons1 (F1 := []) rd this
          · rw [if_neg c, if_neg c]
            exact RepL.cons1 (F1 := []) r1 this
  · rw [List.map_append]
    exact RepL.append (F1 := []) r rd
theorem put_len {ks : List (Addr × List Int)} {ws : List V} (hl : ks.length = ws.length) (b : Addr) (k : List Int) (v : V) : (dPutK ks b k).length = (dPutV ks ws k v).length := by
  unfold dPutK dPutV
  split
  · rw [List.length_zipWith, hl, Nat.min_self]
  · rw [List.length_append, List.length_append, hl]; rfl
theorem rdS_dset {i : Nat} {ie e : Env → T D} {dn : Ends} {σ : L2.St} {H : Hp} (h : RdS K G (dsetS i ie e) dn σ H) : tAsg (RdE K G e) (gSub (tVar i) (RdE K G ie) (rSetX K)) dn σ H := by
  obtain ⟨Z, env, S, h⟩ := h
  obtain ⟨kvs, eo, h⟩ := mat_o h
  have ex := dicAt_some eo
  refine ⟨Z, env, S, (T.holds_bind h).mono fun d h Z1 v H1 F1 o => ?_⟩
  have S1 := S.go o.go
  refine tVarD_of S1 ex fun p ev => ⟨Z1, env, S1, (T.holds_bind h).mono fun y a0 Z2 kv H2 F2 o2 => ?_⟩
  obtain ⟨k, ek, a1⟩ := mat_o a0
  obtain ⟨nss, en, a2⟩ := mat_o a1
  obtain ⟨c, a3⟩ := ite_holds a2
  clear h a0 a1 a2
  have ed := keyD_eq ek
  subst ed
  obtain ⟨pb, wsb, eb, sb, rb, _⟩ := tup_val o2.tmp
  have ew := rep_ints rb k (Dn.ints_of k)
  subst ew
  obtain ⟨p2, ob, kws, ws, F', ev2, hp2, b, r, hm⟩ := mutD_of S ex (o.go.trans o2.go)
  rw [ev] at ev2
  cases ev2
  unfold kvL at r
  have hkl : (kvs.map (·.1)).length = kvs.length := List.length_map ..
  generalize hk : kvs.map (·.1) = keys at b r hkl
  cases b with
  | @x ks vs hl =>
    have es := keys_tis hk en
    subst es
    obtain ⟨i1, i2⟩ := keys_rep r
    have hkk : ks.length = kvs.length := by rw [← hkl, List.length_map]
    have t2 := o.tmp.go o2.go fun q hq => (o.new.new q hq).2.2
    have rd : RepL K (G.zs Z2) H2 .own [d] [v] [] := t2.t.flat (fun _ z => z) (fun _ z => z) (fun _ z => z) (by simp [c.1])
    have rv : RepL K (G.zs Z2) H2 .own (kvs.map (·.2)) ws [] := i2.flat (fun _ z => z) (fun _ z => z) (fun _ z => z) c.2.1
    have kk : ∀ q ∈ dPutK ks pb k, TupX K H2 q.1 (q.2.map V.int) := by
      intro q hq
      unfold dPutK at hq
      split at hq
      · exact i1 q hq
      · rcases List.mem_append.mp hq with z | z
        · exact i1 q z
        · rw [List.mem_singleton.mp z]; exact sb
    obtain ⟨ha, hb⟩ := hm (putD kvs k (ks.map (·.2)) d) ((dPutK ks pb k).map fun q => V.ref q.1) (dPutV ks ws k v) (DicO p (dPutK ks pb k) (dPutV ks ws k v)) (by rw [put_keys hk pb k d]; exact .x (put_len hl pb k v)) (by
      unfold kvL
      rw [put_keys hk pb k d]
      exact keys_put kk (put_vals hkk rv rd))
    exact ⟨pb, p, k, ks, ws, rfl, eb, sb.sq, ⟨hp2, fun q hq => (i1 q hq).sq⟩, size_lt (by omega), a3 Z2 σ _ ha hb⟩
theorem st_dset {x : Str} {e ie : Expr} {di de : Env → T D} {xp p2 pos : Pos} (hu : X.A.units + 65 < cLine) (i : Nat) (hi : IsSl X i x) (hix : PE X ie (RdE X.K G di)) (he : PE X e (RdE X.K G de))
    (ha : ∀ v, assign (.Subscript (.Name x xp) ie p2) X.env v = (do
      let ov ← holding [v] (eval (.Name x xp) X.env)
      let iv ← holding [v, ov] (eval ie X.env)
      standAt p2
      holding [v, ov, iv] (setItem ov iv v)
      release [v, ov, iv] []) := by intro _; rfl)
    (hs : swapsWithSole [.Subscript (.Name x xp) ie p2] e pos.line X.env = pure false := by rfl) (hw : swappedStores [.Subscript (.Name x xp) ie p2] e X.env = pure none := by rfl)
    (h1 : (assignEach [.Subscript (.Name x xp) ie p2] X.env).map (·.2) = [assign (.Subscript (.Name x xp) ie p2) X.env] := by rfl) : PS X (.Assign [.Subscript (.Name x xp) ie p2] e pos) (RdS X.K G (dsetS i di de)) :=
  PS.imp (ps_asg he (pg_sub hi.pe hix (set_dicX hu) ha) hs hw h1) fun _ _ _ h => rdS_dset h
end
end Dn
namespace Dn
open PySem PySem.Spec PyProof.Rows L2
theorem op_inXA {X : Cx} (hu : X.A.units + 65 < cLine) : OpR X (compareOp .In) (fun x y H Q => rInA X.K false x y H Q ∨ rInX X.K false x y H Q) := fun pins s σ H x y v u Q I rx ry h => h.elim (op_inA hu pins s σ H x y v u Q I rx ry) (op_inX hu pins s σ H x y v u Q I rx ry)
theorem op_notInXA {X : Cx} (hu : X.A.units + 65 < cLine) : OpR X (compareOp .NotIn) (fun x y H Q => rInA X.K true x y H Q ∨ rInX X.K true x y H Q) := fun pins s σ H x y v u Q I rx ry h => h.elim (op_notInA hu pins s σ H x y v u Q I rx ry) (op_notInX hu pins s σ H x y v u Q I rx ry)
end Dn

set_option Elab.async false
set_option linter.all false
set_option maxRecDepth 100000
set_option maxHeartbeats 600000
namespace Dn
open PySem PySem.Spec PyProof.Rows L2
/-! ## d.get(k, x), the values flat -/
def getV (kvs : List (D × D)) (k : List Int) (nss : List (List Int)) (z : D) : T D := match ixOf nss k with
  | some j => T.ofO (kvs.map (·.2))[j]?
  | none => .ret z
def getD2 (kvs : List (D × D)) : List D → T D
  | [y, z] => (T.ofO (keyD y)).bind fun k => (T.ofO (tisOf (kvs.map (·.1)))).bind fun nss => if (kvs.map (·.2)).all flatD = true ∧ flatD z = true then getV kvs k nss z else .fail
  | _ => .fail
def getE (a : Env → T D) (r : Env → T (List D)) : Env → T D := fun env => (a env).bind fun x => match x with
  | .dic _ kvs => (r env).bind fun ys => getD2 kvs ys
  | _ => .fail
section
variable {X : Cx} {K : PySem.W.Frag} {G : Gh}
/-- d.get by values -/
def rGetX (K : PySem.W.Frag) : V → List V → Hp → VK → Prop := fun x xs H Q => ∃ (b p : Addr) (k : List Int) (ks : List (Addr × List Int)) (ws : List V) (z : V), x = .ref p ∧ xs = [.ref b, z] ∧ SqT K H b (k.map V.int) ∧ DicH K H p ks ws ∧ Q ((dAt ks ws k).getD z) H
theorem mt_getX (hu : X.A.units + 65 < cLine) : MtR X "dict.get" (rGetX X.K) := by
  intro pins s σ H x xs v us Q I rx rs h
  obtain ⟨b, p, k, ks, ws, z, rfl, rfl, hb, hd, q⟩ := h
  cases rx
  cases rs with
  | cons r1 t =>
    cases r1
    cases t with
    | @cons _ u _ _ rz t =>
      cases t
      obtain ⟨vs, rv, h1, h2, h3, dd⟩ := dic_raw I hd
      refine call_meetsIn PySem.F.slot_dict_get dd.typeIs PySem.F.entry_dict_get (PySem.F.args_dict_get_3 _ _ _) (meetsH_dict_get_default (tiK X.prog X.w) p b h1 u) ⟨tupleKind_room_in1 (by omega), k, _, I.isT hb, dd, ?_⟩
      refine ⟨_, H, I.tok _, ?_, q⟩
      have := at_rel k rv h3
      cases e1 : dAt ks ws k <;> cases e2 : atKey (xs3 ks vs) k <;> rw [e1, e2] at this <;> first | exact rz | exact this | exact this.elim
def tGetX (K : PySem.W.Frag) (to : TE) (t : TA) : TE := fun σ H Q => to σ H fun x H1 => (∃ p ks ws, x = .ref p ∧ DicH K H1 p ks ws) ∧ t σ H1 fun xs H2 => rGetX K x xs H2 Q
theorem pe_getX {o e f : Expr} {to : TE} {t : TA} {apos cpos : Pos} (hu : X.A.units + 65 < cLine) (ho : PE X o to) (ha : PA X [e, f] t)
    (h1 : attributeBase o "get" X.env (eval o X.env) = eval o X.env := by rfl)
    (h2 : ((backTo cpos (starEach [e, f] X.env)).all (fun x => !x.1) && (backToKw cpos (keywordEach [] X.env)).all (fun x => x.1.isSome) && decide ([e, f].length + ([] : List Keyword).length + (if ([] : List Keyword).isEmpty then 0 else 1) < 30)) = true := by rfl)
    (h3 : (apos.endLine == cpos.line) = true := by rfl) (h4 : starEach [e, f] X.env = (false, eval e X.env) :: starEach [f] X.env := by rfl) (h5 : (backTo cpos (starEach [f] X.env)).any (·.1) = false := by rfl) :
    PE X (.Call (.Attribute o "get" apos) [e, f] [] cpos) (tGetX X.K to t) := by
  refine ⟨fun pins s σ H Q I h => ?_⟩
  refine wpAny_Call_method_late h1 h2 h3 rfl (thn (ho.run pins s σ H _ I h) fun v s1 ⟨x, H1, I1, r1, ty, q1⟩ => ?_)
  obtain ⟨p, ks, ws, rfl, hd⟩ := ty
  obtain rfl : v = Value.ref p := r1
  obtain ⟨vs, rv, g1, g2, g3, dd⟩ := dic_raw I1 hd
  refine ⟨"dict", "dict.get", PySem.F.plainAttrs_dict, PySem.F.slot_dict_get, PySem.F.type_dict_get, dd.typeIs, dictOfH_noDict dd, ?_⟩
  have hA := ha.run cpos pins s1 σ H1 _ I1 q1
  rw [h4] at hA ⊢
  refine Calls.callWith_builtin (by show (false || (backTo cpos (starEach [f] X.env)).any (·.1)) = false; rw [h5] <;> rfl) (Calls.evalArgs_plain ?_)
  exact thn hA fun us s2 ⟨ys, H2, I2, r2, q2⟩ => mt_getX hu pins s2 σ H2 (.ref p) ys (.ref p) us Q I2 rfl r2 q2
theorem ee_get {o e f : Expr} {dob : Env → T D} {da : Env → T (List D)} {apos cpos : Pos} (hu : X.A.units + 65 < cLine) (ho : PE X o (RdE X.K G dob)) (ha : PA X [e, f] (RdA X.K G da))
    (h1 : attributeBase o "get" X.env (eval o X.env) = eval o X.env := by rfl)
    (h2 : ((backTo cpos (starEach [e, f] X.env)).all (fun x => !x.1) && (backToKw cpos (keywordEach [] X.env)).all (fun x => x.1.isSome) && decide ([e, f].length + ([] : List Keyword).length + (if ([] : List Keyword).isEmpty then 0 else 1) < 30)) = true := by rfl)
    (h3 : (apos.endLine == cpos.line) = true := by rfl) (h4 : starEach [e, f] X.env = (false, eval e X.env) :: starEach [f] X.env := by rfl) (h5 : (backTo cpos (starEach [f] X.env)).any (·.1) = false := by rfl) :
    PE X (.Call (.Attribute o "get" apos) [e, f] [] cpos) (RdE X.K G (getE dob da)) :=
  PE.imp (pe_getX hu ho ha h1 h2 h3 h4 h5) fun σ H Q h => by
    obtain ⟨Z, env, S, h⟩ := h
    refine ⟨Z, env, S, (T.holds_bind h).mono fun d1 h Z1 v1 H1 F1 e1 => ?_⟩
    cases d1 with
    | dic f0 kvs =>
      obtain ⟨p, ks, ws, F', ev, hk, hl, hd, _⟩ := dic_read (Fin := []) e1.tmp
      refine ⟨⟨p, ks, ws, ev, hd⟩, Z1, env, S.go e1.go, (T.holds_bind h).mono fun ys a0 Z2 vs H2 F2 o => ?_⟩
      have tt := e1.tmp.go o.go fun p hp => (e1.new.new p hp).2.2
      obtain ⟨p', ks, ws, F3, ev', hk, hl, hd, r1, g1, g2, g3⟩ := dic_read (Fin := []) tt
      rw [ev] at ev'
      cases ev'
      match ys, a0 with
      | [y, z], a0 =>
        obtain ⟨k, ek, a1⟩ := mat_o a0
        obtain ⟨nss, en, a2⟩ := mat_o a1
        obtain ⟨c, a3⟩ := ite_holds a2
        clear a0 a1 a2
        have ed := keyD_eq ek
        subst ed
        cases o.tmp with
        | cons t1 t2 =>
          cases t2 with
          | cons t2 t3 =>
            cases t3
            obtain ⟨pb, wsb, eb, sb, rb, _⟩ := tup_val t1
            have ew := rep_ints rb k (Dn.ints_of k)
            subst ew
            have es := keys_tis hk en
            subst es
            rename_i v2 _ _
            refine ⟨pb, p, k, ks, ws, v2, ev, by rw [eb], sb.sq, hd, ?_⟩
            have rz : RepL X.K (G.zs Z2) H2 .own [z] [v2] [] := t2.t.flat (fun _ z => z) (fun _ z => z) (fun _ z => z) (by simp [c.2])
            have nbz : topBor z = false := by
              exact flat_nb c.2
            have gg : Go G Z H Z2 H2 := e1.go.trans o.go
            unfold getV at a3
            cases ei : ixOf (ks.map (·.2)) k with
            | none =>
              rw [ei] at a3
              have hn : dAt ks ws k = none := by
                have := dAt_some (k := k) hl
                rw [decide_eq_false (ixOf_mem.mp ei)] at this
                cases e : dAt ks ws k with
                | none => rfl
                | some _ => rw [e] at this; cases this
              rw [hn]
              exact a3 Z2 _ H2 [] ⟨gg, .inr ⟨nbz, rz⟩, ⟨fun _ z => (List.not_mem_nil z).elim, .nil⟩⟩
            | some j =>
              rw [ei] at a3
              change (T.ofO (kvs.map (·.2))[j]?).Holds _ at a3
              have hlv : ks.length = (kvs.map (·.2)).length := by rw [List.length_map, ← List.length_map (f := (·.1)) (as := kvs), hk, List.length_map]
              cases ej : (kvs.map (·.2))[j]? with
              | none => rw [ej] at a3; exact a3.elim
              | some d =>
                rw [ej] at a3
                have rv : RepL X.K (G.zs Z2) H2 .own (kvs.map (·.2)) ws [] := r1.flat (fun _ z => z) (fun _ z => z) (fun _ z => z) c.1
                obtain ⟨w, F0, e3, sub, r⟩ := rv.at ej
                have e0 := List.sublist_nil.mp sub
                subst e0
                rw [ixOf_at hl ei e3]
                have fd : flatD d = true := List.all_eq_true.mp c.1 d (List.mem_of_getElem? ej)
                have nbd : topBor d = false := by
                  exact flat_nb fd
                exact a3 Z2 w H2 [] ⟨gg, .inr ⟨nbd, r⟩, ⟨fun _ z => (List.not_mem_nil z).elim, .nil⟩⟩
      | [], a0 => exact a0.elim
      | [_], a0 => exact a0.elim
      | _ :: _ :: _ :: _, a0 => exact a0.elim
    | _ => exact h.elim
end
end Dn

set_option Elab.async false
set_option linter.all false
set_option maxRecDepth 100000
set_option maxHeartbeats 600000
namespace Dn
open PySem PySem.Spec PyProof.Rows L2
/-! ## repr of single things, of the empty dict -/
def D.reprX : D → T D
  | .non => .ret (.str "None")
  | .bl b => .ret (.str (if b then "True" else "False"))
  | .int i => if -1000000000000 < i ∧ i < 1000000000000 then .ret (.str (toString i)) else .fail
  | .str x => if (reprText x).length ≤ 1000000 then .ret (.str (reprText x)) else .fail
  | .dic f [] => .ret (.str "{}")
  | d => D.repr d
section
variable {K : PySem.W.Frag} {G : Gh} {X : Cx}
def rReprX (K : PySem.W.Frag) : V → Hp → VK → Prop := fun x H Q => (x = .non ∧ Q (.str "None") H) ∨ (∃ b, x = .bl b ∧ Q (.str (if b then "True" else "False")) H) ∨ (∃ i : Int, x = .int i ∧ (-1000000000000 < i ∧ i < 1000000000000) ∧ Q (.str (toString i)) H) ∨
  (∃ y, x = .str y ∧ (reprText y).length ≤ 1000000 ∧ Q (.str (reprText y)) H) ∨ (∃ p, x = .ref p ∧ DicH K H p [] [] ∧ Q (.str "{}") H)
theorem log2_small {n : Nat} (h : n < 1000000000000) : n.log2 < 1920 := by
  by_cases h0 : n = 0
  · subst h0; decide
  · have := (Nat.log2_lt h0 (k := 40)).mpr (by omega)
    omega
theorem cr_reprX (hg : X.A.guards = some []) (hu : X.A.units + 65 < cLine) : CallR X (.builtin "repr") fun vs H Q => ∃ v, vs = [v] ∧ (rRepr X.K v H Q ∨ rReprX X.K v H Q) := by
  intro pins s σ H xs us Q I r h
  obtain ⟨v, rfl, h | h⟩ := h
  · exact cr_repr hg hu pins s σ H [v] us Q I r ⟨v, rfl, h⟩
  · obtain ⟨u, rfl, ru⟩ := vals1 r
    rcases h with ⟨rfl, q⟩ | ⟨b, rfl, q⟩ | ⟨i, rfl, hi, q⟩ | ⟨y, rfl, hy, q⟩ | ⟨p, rfl, hd, q⟩
    · cases (show u = Value.none from ru)
      exact PySem.P.repr_of_none ⟨.str "None", H, I.tok _, ⟨_, rfl⟩, q⟩
    · cases (show u = Value.bool b from ru)
      exact PySem.P.repr_of_bool ⟨.str _, H, I.tok _, ⟨_, rfl⟩, q⟩
    · obtain ⟨t, rfl⟩ := ru
      exact PySem.P.repr_of_int (log2_small (by omega)) ⟨.str _, H, I.tok _, ⟨_, rfl⟩, q⟩
    · obtain ⟨t, rfl⟩ := ru
      exact PySem.P.repr_of_str ⟨.str _, H, I.tok _, ⟨_, rfl⟩, q⟩ (by rw [sizeLine_eq]; omega)
    · obtain rfl : u = Value.ref p := ru
      obtain ⟨hd0, hz, hl, nd, o, es, ep, vs, ho, hex, hdt, rv, he⟩ := (show DicR p [] [] s.heap from (I.hok p _ hd.1).1)
      cases rv
      have e0 : es = #[] := by
        apply Array.ext'
        rw [he]; rfl
      subst e0
      have r1 : Reads s.heap (.ref p) (.dict []) (p :: [] ++ []) := .dict ho hex.1 hdt .nil .nil
      exact repr_of_reads' r1 (by rfl) (fun _ hm => by
        rw [List.append_nil, List.mem_singleton] at hm
        subst hm
        simp at hd0) hg (by have : (PyData.dict []).depth ≤ 60 := by decide
                            omega) (fun _ _ e => e) (fun h' u tk hk => ⟨.str "{}", H, I.kept hk, ⟨_, rfl⟩, q⟩) (by rw [sizeLine_eq]; decide)
theorem o_reprX : Op1 K G (fun x H Q => rRepr K x H Q ∨ rReprX K x H Q) D.reprX := by
  intro Z H d1 v1 F1 Q t1 p h
  cases d1 with
  | non => exact .inr (.inl ⟨non_val t1, h Z _ H [] (.sc p rfl)⟩)
  | bl b => exact .inr (.inr (.inl ⟨b, bl_val t1, h Z _ H [] (.sc p rfl)⟩))
  | int i =>
    obtain ⟨c, h⟩ := ite_holds h
    exact .inr (.inr (.inr (.inl ⟨i, int_val t1, c, h Z _ H [] (.sc p rfl)⟩)))
  | str y =>
    obtain ⟨c, h⟩ := ite_holds h
    exact .inr (.inr (.inr (.inr (.inl ⟨y, str_val t1, c, h Z _ H [] (.sc p rfl)⟩))))
  | dic f kvs =>
    cases kvs with
    | nil =>
      obtain ⟨q, ks, ws, F', e1, hk, hl, hd, _⟩ := dic_read (Fin := []) t1
      have e2 : ks = [] := by cases ks <;> first | rfl | cases hk
      subst e2
      have e3 : ws = [] := by cases ws <;> first | rfl | cases hl
      subst e3
      exact .inr (.inr (.inr (.inr (.inr ⟨q, e1, hd, h Z _ H [] (.sc p rfl)⟩))))
    | cons _ _ => exact .inl (o_repr Z H _ v1 F1 Q t1 p h)
  | _ => exact .inl (o_repr Z H _ v1 F1 Q t1 p h)
end
end Dn

set_option Elab.async false
set_option linter.all false
set_option maxRecDepth 100000
set_option maxHeartbeats 600000
namespace Dn
open PySem PySem.Spec PyProof.Rows L2
/-! ## isinstance, of dicts too -/
def TyY (K : PySem.W.Frag) (H : Hp) (x : V) (t : Value) : Prop := TyX K H x t ∨ ∃ p ks ws, x = .ref p ∧ DicH K H p ks ws ∧ t = .type "dict"
section
variable {K : PySem.W.Frag} {G : Gh} {X : Cx}
theorem kit_ofY {pins : List (Addr × Obj)} {σ : L2.St} {H : Hp} {s : Shared} {x : V} {u t : Value} (I : Inv X pins σ H s) (rx : RelV x u) (ty : TyY X.K H x t) : ∃ P : Heap → Prop, PySem.W.KitX X.K u t P ∧ P s.heap ∧ u ≠ .builtin "__main__.__loader__#opaque" := by
  rcases ty with ty | ⟨p, ks, ws, rfl, hd, rfl⟩
  · exact kit_of I rx ty
  · obtain rfl : u = Value.ref p := rx
    obtain ⟨us, rv, h1, h2, h3, o, es, ep, g1, g2, _⟩ := dic_raw I hd
    exact ⟨_, PySem.W.kitx_dict, ⟨o, g1, g2.1⟩, fun z => nomatch z⟩
def rIsiY (K : PySem.W.Frag) : List V → Hp → VK → Prop := fun xs H Q => ∃ (x c : V) (t u : Value) (b : Bool), xs = [x, c] ∧ ClsV c u ∧ TyY K H x t ∧ PySem.W.kitOne K t u = some b ∧ Q (.bl b) H
def rIsiTY (K : PySem.W.Frag) : List V → Hp → VK → Prop := fun xs H Q => ∃ (x : V) (tp : Addr) (cs : List V) (t : Value) (us : List Value) (b : Bool), xs = [x, .ref tp] ∧ H tp = some (.tup cs) ∧ Paired ClsV cs us ∧ TyY K H x t ∧ PySem.W.kitAny K t us = some b ∧ Q (.bl b) H
theorem call_isiY : CallR X (.builtin "isinstance") (rIsiY X.K) := by
  intro pins s σ H xs us Q I r h
  obtain ⟨x, c, t, u, b, rfl, k, ty, e, q⟩ := h
  obtain ⟨u1, u2, rfl, r1, r2⟩ := vals2 r
  have e2 := k.eq r2
  subst e2
  obtain ⟨P, Z, p, hx⟩ := kit_ofY I r1 ty
  exact PySem.W.kia_one Z I.kIn p e hx fun tk => ⟨.bl b, H, I.tok tk, rfl, q⟩
theorem call_isiTY : CallR X (.builtin "isinstance") (rIsiTY X.K) := by
  intro pins s σ H xs us Q I r h
  obtain ⟨x, tp, cs, t, ws, b, rfl, hT, k, ty, e, q⟩ := h
  obtain ⟨u1, u2, rfl, r1, r2⟩ := vals2 r
  cases (show u2 = Value.ref tp from r2)
  obtain ⟨P, Z, p, hx⟩ := kit_ofY I r1 ty
  obtain ⟨_, its, rv, ob, h1, h2, n, h3⟩ := (show ObjOk X.prog X.w H s.heap tp (.tup cs) from I.hok tp _ hT)
  have e3 := ClsV.all k rv
  subst e3
  obtain ⟨oc, od, dt, sl⟩ := ob
  simp only at h2 h3
  subst h2 h3
  exact PySem.W.kia_tup Z I.kIn p h1 e hx fun tk => ⟨.bl b, H, I.tok tk, rfl, q⟩
def tagX : D → Option String
  | .dic _ _ => some "dict"
  | d => tagD d
theorem tagX_or {d : D} {a : String} (h : tagX d = some a) : (∃ f kvs, d = .dic f kvs ∧ a = "dict") ∨ tagD d = some a := by
  cases d <;> first | exact .inr h | (cases h; exact .inl ⟨_, _, rfl, rfl⟩)
theorem tag_memX {d : D} {a : String} (h : tagX d = some a) : a ∈ tags := by
  rcases tagX_or h with ⟨_, _, rfl, rfl⟩ | h
  · decide
  · exact tag_mem h
theorem Tmp.tagX {Z : Addr → Prop} {H : Hp} {d : D} {v : V} {F : List Addr} (t : Tmp K G Z H d v F) {a : String} (h : Dn.tagX d = some a) : TyY K H v (.type a) := by
  rcases tagX_or h with ⟨f, kvs, rfl, rfl⟩ | h
  · obtain ⟨p, ks, ws, F', e1, hk, hl, hd, _⟩ := dic_read (Fin := []) t
    exact .inr ⟨p, ks, ws, e1, hd, rfl⟩
  · exact .inl (t.tag h)
def isiX (cs : List String) (d : D) : T D := (T.ofO (tagX d)).bind fun a => .ret (.bl (cs.any fun c => isTy c a))
theorem ee_isiX {e : Expr} {de : Env → T D} {p q pos : Pos} {c : Str} (ty : String) (he : PE X e (RdE X.K G de)) (hg : Gl X "isinstance") (hm : X.mg "isinstance" = none) (hgc : Gl X c) (hmc : X.mg c = none) (hvc : bootBuiltins c = some (.type ty)) (hw : ty ∈ wants := by decide)
    (hnc : c ≠ "__name__" := by decide) (hdc : (c == ("__debug__" : Str)) = false := by decide) (hs : starEach [e, .Name c q] X.env = (false, eval e X.env) :: starEach [.Name c q] X.env := by rfl) (hs2 : starEach [.Name c q] X.env = (false, eval (.Name c q) X.env) :: starEach [] X.env := by rfl) (hpl : (backTo pos (starEach [.Name c q] X.env)).any (·.1) = false := by rfl) :
    PE X (.Call (.Name "isinstance" p) [e, .Name c q] [] pos) (RdE X.K G (un1 (isiX [ty]) de)) :=
  PE.imp (pe_callB call_isiY hg hm PyProof.Rows.boot_isinstance (pa_cons he (pa_cons (pe_bltn (v := .ty ty) hgc hmc hvc rfl hnc hdc) pa_nil hs2) hs) (by decide) (by decide) hs hpl) fun σ H Q h => by
    obtain ⟨Z, env, S, h⟩ := h
    refine ⟨Z, env, S, (T.holds_bind h).mono fun d h Z1 v1 H1 F1 e => ?_⟩
    obtain ⟨a, ea, h⟩ := mat_o h
    refine ⟨v1, .ty ty, .type a, .type ty, _, rfl, .ty ty, e.tmp.tagX ea, kit_ty (kit_at (tag_memX ea) hw), h Z1 _ H1 [] ⟨e.go, tmp_sc ?_, .nil⟩⟩
    show some (V.bl (isTy ty a || false)) = _
    rw [Bool.or_false]
theorem ee_isi2X {e : Expr} {de : Env → T D} {p q1 q2 q pos : Pos} {k : Nat} {c d : Str} (ty ty2 : String) (he : PE X e (RdE X.K G de)) (hg : Gl X "isinstance") (hm : X.mg "isinstance" = none) (hgc : Gl X c) (hmc : X.mg c = none) (hvc : bootBuiltins c = some (.type ty)) (hgd : Gl X d) (hmd : X.mg d = none) (hvd : bootBuiltins d = some (.type ty2)) (hw : ty ∈ wants := by decide) (hw2 : ty2 ∈ wants := by decide)
    (hnc : c ≠ "__name__" := by decide) (hdc : (c == ("__debug__" : Str)) = false := by decide) (hnd : d ≠ "__name__" := by decide) (hdd : (d == ("__debug__" : Str)) = false := by decide)
    (hs : starEach [e, .Tuple [.Name c q1, .Name d q2] k q] X.env = (false, eval e X.env) :: starEach [.Tuple [.Name c q1, .Name d q2] k q] X.env := by rfl) (hs2 : starEach [.Tuple [.Name c q1, .Name d q2] k q] X.env = (false, eval (.Tuple [.Name c q1, .Name d q2] k q) X.env) :: starEach [] X.env := by rfl)
    (hs3 : starEach [.Name c q1, .Name d q2] X.env = (false, eval (.Name c q1) X.env) :: starEach [.Name d q2] X.env := by rfl) (hs4 : starEach [.Name d q2] X.env = (false, eval (.Name d q2) X.env) :: starEach [] X.env := by rfl) (hpl : (backTo pos (starEach [.Tuple [.Name c q1, .Name d q2] k q] X.env)).any (·.1) = false := by rfl) :
    PE X (.Call (.Name "isinstance" p) [e, .Tuple [.Name c q1, .Name d q2] k q] [] pos) (RdE X.K G (un1 (isiX [ty, ty2]) de)) :=
  PE.imp (pe_callB call_isiTY hg hm PyProof.Rows.boot_isinstance (pa_cons he (pa_cons (pe_tup (pa_cons (pe_bltn (v := .ty ty) hgc hmc hvc rfl hnc hdc) (pa_cons (pe_bltn (v := .ty ty2) hgd hmd hvd rfl hnd hdd) pa_nil hs4) hs3)) pa_nil hs2) hs) (by decide) (by decide) hs hpl) fun σ H Q h => by
    obtain ⟨Z, env, S, h⟩ := h
    refine ⟨Z, env, S, (T.holds_bind h).mono fun d h Z1 v1 H1 F1 e => ⟨by rw [sizeLine_eq]; show 2 ≤ _; omega, fun p n => ?_⟩⟩
    obtain ⟨a, ea, h⟩ := mat_o h
    have g := Go.new (o := .tup [.ty ty, .ty ty2]) e.go.potB e.go.zB n
    have q := Go.ex e g
    exact ⟨v1, p, _, _, _, _, rfl, upd_same, .cons (.ty ty) (.cons (.ty ty2) .nil), q.tmp.tagX ea, kitAny_two (tag_memX ea) hw hw2, h Z1 _ _ [] ⟨q.go, tmp_sc rfl, .nil⟩⟩

end
end Dn

set_option Elab.async false
set_option linter.all false
set_option maxRecDepth 100000
set_option maxHeartbeats 600000
namespace Dn
open PySem PySem.Spec PyProof.Rows L2
/-! ## sorted(set(x)), x a tuple of whole numbers too -/
def insI (x : Int) : List Int → List Int
  | [] => [x]
  | y :: ys => if x < y then x :: y :: ys else if x = y then y :: ys else y :: insI x ys
def srtI : List Int → List Int
  | [] => []
  | x :: xs => insI x (srtI xs)
theorem insI_mem {x k : Int} : ∀ {l : List Int}, k ∈ insI x l ↔ k = x ∨ k ∈ l
  | [] => by simp [insI]
  | y :: ys => by
    unfold insI
    split
    · simp
    · split
      · rename_i h; subst h; simp
      · rw [List.mem_cons, insI_mem, List.mem_cons]
        constructor
        · rintro (h | h | h) <;> simp [h]
        · rintro (h | h | h) <;> simp [h]
theorem insI_inc {x : Int} : ∀ {l : List Int}, l.Pairwise (· < ·) → (insI x l).Pairwise (· < ·)
  | [], _ => List.pairwise_singleton _ _
  | y :: ys, h => by
    obtain ⟨h1, h2⟩ := List.pairwise_cons.mp h
    unfold insI
    split
    · rename_i c
      refine List.pairwise_cons.mpr ⟨fun z hz => ?_, h⟩
      rcases List.mem_cons.mp hz with rfl | hz
      · exact c
      · exact Int.lt_trans c (h1 z hz)
    · split
      · exact h
      · refine List.pairwise_cons.mpr ⟨fun z hz => ?_, insI_inc h2⟩
        rcases insI_mem.mp hz with rfl | hz
        · omega
        · exact h1 z hz
theorem srtI_mem {k : Int} : ∀ {l : List Int}, k ∈ srtI l ↔ k ∈ l
  | [] => Iff.rfl
  | y :: ys => by rw [srtI, insI_mem, srtI_mem, List.mem_cons]
theorem srtI_inc : ∀ (l : List Int), (srtI l).Pairwise (· < ·)
  | [] => .nil
  | y :: ys => insI_inc (srtI_inc ys)
theorem inc_uniq : ∀ {l m : List Int}, l.Pairwise (· < ·) → m.Pairwise (· < ·) → (∀ k, k ∈ l ↔ k ∈ m) → l = m
  | [], [], _, _, _ => rfl
  | [], y :: m, _, _, h => absurd ((h y).mpr List.mem_cons_self) List.not_mem_nil
  | x :: l, [], _, _, h => absurd ((h x).mp List.mem_cons_self) List.not_mem_nil
  | x :: l, y :: m, hl, hm, h => by
    obtain ⟨l1, l2⟩ := List.pairwise_cons.mp hl
    obtain ⟨m1, m2⟩ := List.pairwise_cons.mp hm
    have e : x = y := by
      have hx := (h x).mp List.mem_cons_self
      have hy := (h y).mpr List.mem_cons_self
      rcases List.mem_cons.mp hx with e | hx
      · exact e
      · rcases List.mem_cons.mp hy with e | hy
        · exact e.symm
        · have := m1 x hx
          have := l1 y hy
          omega
    subst e
    rw [inc_uniq l2 m2 fun k => ?_]
    constructor
    · intro hk
      rcases List.mem_cons.mp ((h k).mp (List.mem_cons_of_mem _ hk)) with e | z
      · have := l1 k hk; omega
      · exact z
    · intro hk
      rcases List.mem_cons.mp ((h k).mpr (List.mem_cons_of_mem _ hk)) with e | z
      · have := m1 k hk; omega
      · exact z
def D.sortSetX : D → T D
  | .tup xs => (T.ofO (intsOf xs)).bind fun ns => if ns.length < 64 then .ret (.lst .own ((srtI ns).map .int)) else .fail
  | d => D.sortSet d
section
variable {K : PySem.W.Frag} {G : Gh} {X : Cx}
def rSetOfI (K : PySem.W.Frag) (w : World) : List V → Hp → VK → Prop := fun vs H Q => ∃ (l : Addr) (ns : List Int), vs = [V.ref l] ∧ SqT K H l (ns.map V.int) ∧ ns.length < 64 ∧ ∀ a n, H a = none → n ≤ ns.length → Q (.ref a) (upd H a (SetO w a (fun j => decide (j ∈ ns)) n))
theorem cr_setOfI (hc : X.calm = true) : CallR X (.type "set") (rSetOfI X.K X.w) := by
  intro pins s σ H xs us Q I r h
  obtain ⟨l, ns, rfl, hl, hf, q⟩ := h
  rw [Vals.ref1 r]
  obtain ⟨its, rv, pl, _⟩ := I.tuple hl
  have hn : H s.heap.objs.size = none := I.hok.fresh (Nat.le_refl _)
  refine call_set_tupI ns (I.ok.hd hc) (show s.heap.IsTuple l its.toArray from pl) (by simpa using L2.intsAre_of rv) (by unfold scanBound; omega) fun h' tk c R hcl hk => ?_
  exact ⟨.ref s.heap.objs.size, upd H s.heap.objs.size (SetO X.w s.heap.objs.size (fun j => decide (j ∈ ns)) c), I.laid (t' := tk) hk (Nat.le_refl _) (setO_new R), rfl, q _ c hn hcl⟩
def rSortSetX (K : PySem.W.Frag) (P : Program) (w : World) : V → Hp → VK → Prop := fun x H Q => rSetOfT K P w [x] H (fun y H1 => rSortedT K P w [y] H1 Q ∨ rSortedSet w [y] H1 Q) ∨ rSetOfI K w [x] H (fun y H1 => rSortedT K P w [y] H1 Q ∨ rSortedSet w [y] H1 Q)
theorem o_sortSetX {P : Program} {w : World} : Op1 K G (rSortSetX K P w) D.sortSetX := by
  intro Z H d1 v1 F1 Q t1 p h
  cases d1 with
  | tup xs =>
    obtain ⟨ns, en, hh⟩ := mat_o h
    obtain ⟨c, h2⟩ := ite_holds hh
    clear h hh
    obtain ⟨pa, ws, e1, s1, r1, _⟩ := tup_val t1
    have ew := rep_ints r1 ns en
    subst ew
    refine .inr ⟨pa, ns, by rw [e1], s1.sq, c, fun a n na hn => .inr ⟨a, _, n, rfl, upd_same, by omega, fun ns' q hi hm hl nq => ?_⟩⟩
    have e : ns' = srtI ns := inc_uniq hi (srtI_inc ns) fun k => by rw [srtI_mem, hm k, decide_eq_true_eq]
    subst e
    have g := Go.new (o := SetO w a (fun j => decide (j ∈ ns)) n) p.pot p.zf na
    have pr : Pre K G Z (upd H a (SetO w a (fun j => decide (j ∈ ns)) n)) F1 := ⟨g.potB, g.zB, p.own, p.nd, p.gr.trans g.grow⟩
    have r := rep_int (K := K) (Z := G.zs Z) (H := upd H a (SetO w a (fun j => decide (j ∈ ns)) n)) (m := .own) (srtI ns)
    have o := OpOut.lst pr r (List.nil_sublist _) nq
    refine h2 Z _ _ _ ⟨g.grow.trans o.grow, o.potB, o.zle, fun b z => (o.znew b z).imp id fun h => h.imp (fun h => g.grow.back (o.zB b z).2 h) id, o.zB, o.tmp, fun b hb => ⟨(o.own b hb).1.imp (fun h => g.grow.back (o.own b hb).2.2 h) id, (o.own b hb).2⟩, o.nd⟩
  | lst f xs =>
    have q := o_sortSet (P := P) (w := w) Z H _ v1 F1 Q t1 p h
    obtain ⟨l, ks, e1, h1, h2, h3, h4⟩ := q
    exact .inl ⟨l, ks, e1, h1, h2, h3, fun a L x y z => .inl (h4 a L x y z)⟩
  | _ => exact h.elim
theorem ee_sortSetX {e : Expr} {de : Env → T D} {p p2 pos pos2 : Pos} (hc : X.calm = true) (hu : X.A.units + 64 < cLine) (hg : Gl X "sorted") (hm : X.mg "sorted" = none) (hg2 : Gl X "set") (hm2 : X.mg "set" = none) (he : PE X e (RdE X.K G de))
    (hs : starEach [e] X.env = (false, eval e X.env) :: starEach [] X.env := by rfl) (hs2 : starEach [.Call (.Name "set" p2) [e] [] pos2] X.env = (false, eval (.Call (.Name "set" p2) [e] [] pos2) X.env) :: starEach [] X.env := by rfl)
    (hpl : (backTo pos2 (starEach [] X.env)).any (·.1) = false := by rfl) (hpl2 : (backTo pos (starEach [] X.env)).any (·.1) = false := by rfl) :
    PE X (.Call (.Name "sorted" p) [.Call (.Name "set" p2) [e] [] pos2] [] pos) (RdE X.K G (un1 D.sortSetX de)) :=
  PE.imp (pe_callB (CallR.or (cr_sortedT hc) (cr_sortedSet hc)) hg hm PyProof.Rows.boot_sorted (pa_cons (pe_callTy (CallR.or (cr_setOfT hc hu) (cr_setOfI hc)) hg2 hm2 PyProof.Rows.boot_set (pa_cons he pa_nil hs) (by decide) (by decide) hs hpl) pa_nil hs2) (by decide) (by decide) hs2 hpl2) fun _ _ _ h => rd1 (o_sortSetX (P := X.prog) (w := X.w)) h
end
end Dn

set_option Elab.async false
set_option linter.all false
set_option maxRecDepth 100000
set_option maxHeartbeats 600000
namespace Dn
open PySem PySem.Spec PyProof.Rows L2
/-! ## t[::-1] -/
section
variable {prog : Program} {w : World} {A : Around} {E : Value → Shared → Prop} {s : Shared}
theorem rev_adjust (n : Nat) : Builtin.Slice.sliceAdjust none none (-1) (n : Int) = ((n : Int) - 1, -1) := by
  unfold Builtin.Slice.sliceAdjust
  simp
theorem rev_places (n : Nat) : Builtin.Slice.slicePlaces ((n : Int) - 1) (-1) (-1) = n := by
  unfold Builtin.Slice.slicePlaces
  have h1 : ¬ ((-1 : Int) > 0) := by decide
  by_cases h : (n : Int) - 1 > -1
  · simp only [h1, if_false, h, if_true]
    have e : ((n : Int) - 1 - -1 - 1) / (- -1) + 1 = (n : Int) := by
      rw [show (- -1 : Int) = 1 by decide, Int.ediv_one]
      omega
    omega
  · simp only [h1, if_false, h]
    omega
theorem fm_congr {α β : Type} {f g : α → Option β} : ∀ {l : List α}, (∀ x ∈ l, f x = g x) → l.filterMap f = l.filterMap g
  | [], _ => rfl
  | x :: l, h => by rw [List.filterMap_cons, List.filterMap_cons, h x List.mem_cons_self, fm_congr fun y hy => h y (List.mem_cons_of_mem _ hy)]
theorem rev_pick (xs : Array Value) : ((List.range xs.size).filterMap fun (m : Nat) => xs[(((xs.size : Nat) : Int) - 1 + (m : Int) * (-1)).toNat]?).toArray = xs.toList.reverse.toArray := by
  have e : ((List.range xs.size).filterMap fun (m : Nat) => xs[(((xs.size : Nat) : Int) - 1 + (m : Int) * (-1)).toNat]?) = (((List.range xs.size).map fun k => xs.size - 1 - k).filterMap (xs[·]?)) := by
    rw [List.filterMap_map]
    refine fm_congr fun m hm => ?_
    have := List.mem_range.mp hm
    have e : (((xs.size : Nat) : Int) - 1 + (m : Int) * (-1)).toNat = xs.size - 1 - m := by omega
    show xs[_]? = xs[_]?
    rw [e]
  rw [e, PySem.W.krv_range, List.filterMap_reverse, PySem.W.krv_all]
theorem getItem_tuple_rev {t sl : Addr} {items : Array Value} {vl vu vs : Value} {Q : Value → Shared → Prop} (ht : IsTup s.heap t items) (hs : s.heap.IsSliceOf sl vl vu vs) (pl : IsPart vl none) (pu : IsPart vu none) (ps : IsPart vs (some (-1)))
    (h : Q (.ref s.heap.objs.size) { s with heap := s.heap.push { cls := .type "tuple", data := .seq items.toList.reverse.toArray } })
    (hsz : items.size ≤ sizeLine) : wpAny (model prog w) A (getItem (.ref t) (.ref sl)) Q E s := by
  have htake : sizeOk (.seq items.toList.reverse.toArray) := by
    show items.toList.reverse.toArray.size ≤ sizeLine
    rw [List.size_toArray, List.length_reverse, Array.length_toList]
    exact hsz
  obtain ⟨os, hos, hcs, hds⟩ := id hs
  have hTs : s.TypeIs (.ref sl) "slice" := ⟨os, hos, hcs⟩
  unfold getItem
  try with_reducible refine wpAny_holding ?_
  first | refine wpAny_bind (wpAny_pure ?_) | skip
  refine wpAny_bind (wpAny_sequenceKey ht.typeIs (by decide) ?_)
  refine wpAny_bind (wpAny_callSpecial?_slot (name := Str.ofString "__getitem__") ht.typeIs PyProof.Rows.slot_tuple_getitem
    (wpAny_call_entry PyProof.Rows.slot_tuple_getitem ht.typeIs entry_tuple_getitem ?_ (args_tuple_getitem _ _)))
  show wpAny _ _ (Builtin.Tuple.tupleItemsOf (.ref t) >>= _) _ _ s
  refine wpAny_bind (tupleItemsOf_ ht ?_)
  refine wpAny_bind (wpAny_typeOf hTs ?_)
  rw [if_pos (by decide)]
  have ap : ∀ {A : Around} {E : _} {Q : Int × Int × Nat → Shared → Prop}, Q (((items.size : Nat) : Int) - 1, -1, items.size) s → wpAny (model prog w) A (Builtin.Slice.sliceApplied (.ref sl) (pure ((items.size : Nat) : Int))) Q E s := by
    intro A E Q h
    unfold Builtin.Slice.sliceApplied Builtin.Slice.sliceFields
    refine wpAny_bind (wpAny_bind (wpAny_field hos hds (x := vl) rfl (wpAny_bind (wpAny_field hos hds (x := vu) rfl (wpAny_bind (wpAny_field hos hds (x := vs) rfl (wpAny_pure ?_)))))))
    refine wpAny_bind (HT.slicePart_ ps ?_)
    show wpAny _ _ (if ((-1 : Int) == 0) = true then _ else _) _ _ s
    rw [if_neg (by decide)]
    refine wpAny_bind (HT.slicePart_ pl (wpAny_bind (HT.slicePart_ pu (wpAny_bind (wpAny_pure ?_)))))
    show wpAny _ _ (match Builtin.Slice.sliceAdjust none none (-1) ((items.size : Nat) : Int) with | (lo, hi) => pure (lo, (-1 : Int), Builtin.Slice.slicePlaces lo hi (-1))) _ _ s
    rw [rev_adjust]
    show wpAny _ _ (pure (((items.size : Nat) : Int) - 1, (-1 : Int), Builtin.Slice.slicePlaces (((items.size : Nat) : Int) - 1) (-1) (-1))) _ _ s
    rw [rev_places]
    exact wpAny_pure h
  refine wpAny_bind (ap ?_)
  have hno : ¬ ((((items.size : Nat) : Int) - 1 == 0 && (-1 : Int) == 1 && items.size == items.size) = true) := by simp
  show wpAny _ _ (if (((items.size : Nat) : Int) - 1 == 0 && (-1 : Int) == 1 && items.size == items.size) = true then _ else _) _ _ s
  rw [if_neg hno, rev_pick]
  first
    | exact wpAny_bind (m := Builtin.Tuple.tupleExact _) (wpAny_newObj_type (wpAny_pure ⟨_, rfl, wpAny_pure h⟩) htake)
    | exact wpAny_bind (m := Builtin.Tuple.tupleExact _) (wpAny_newObj_type (wpAny_bind (wpAny_pure (wpAny_pure ⟨_, rfl, wpAny_pure h⟩))) htake)
    | exact wpAny_bind (wpAny_bind (m := Builtin.Tuple.tupleExact _) (wpAny_newObj_type (wpAny_pure (wpAny_pure ⟨_, rfl, wpAny_pure h⟩)) htake))
    | exact wpAny_bind (wpAny_bind (m := Builtin.Tuple.tupleExact _) (wpAny_newObj_type (wpAny_pure ⟨_, rfl, wpAny_pure h⟩) htake))
end
section
variable {K : PySem.W.Frag} {G : Gh} {X : Cx}
def rRevX (K : PySem.W.Frag) : V → Hp → VK → Prop := fun x H Q => (∃ a xs, x = .ref a ∧ SqL K H a xs ∧ ∀ p, H p = none → Q (.ref p) (upd H p (.lst xs.reverse))) ∨ (∃ a xs, x = .ref a ∧ SqT K H a xs ∧ MkT H xs.reverse Q)
theorem pe_revX {e : Expr} {te : TE} {k : Nat} {p1 p2 p3 pos : Pos} (he : PE X e te) : PE X (.Subscript e (.Slice none none (some (.UnaryOp .USub (.Constant (.int 1) k p1) p2)) p3) pos) (fun σ H Q => te σ H fun x H1 => rRevX X.K x H1 Q) := by
  refine ⟨fun pins s σ H Q I h => ?_⟩
  refine Subscript_ (thn (he.run pins s σ H _ I h) fun v s1 ⟨x, H1, I1, r1, q1⟩ => ?_)
  have hst : PO X (some (.UnaryOp .USub (.Constant (.int 1) k p1) p2)) (tPart (tUn (rU fun i => .int (-i)) (tC (.int 1)))) := po_some (pe_un un_neg pe_int)
  refine wpAny_Slice (thn (po_none.run pins s1 σ H1 (fun o H2 => o = none ∧ H2 = H1) I1 ⟨rfl, rfl⟩) fun vl s2 ⟨l, H2, I2, pl, el, e2⟩ => ?_)
  subst el e2
  refine thn (po_none.run pins s2 σ H2 (fun o H3 => o = none ∧ H3 = H2) I2 ⟨rfl, rfl⟩) fun vu s3 ⟨u, H3, I3, pu, eu, e3⟩ => ?_
  subst eu e3
  refine thn (hst.run pins s3 σ H3 (fun o H4 => o = some (-1) ∧ H4 = H3) I3 ⟨1, rfl, -1, rfl, rfl, rfl⟩) fun vs s4 ⟨o, H4, I4, ps, eo, e4⟩ => ?_
  subst eo e4
  have I5 : Inv X pins σ H4 { s4 with heap := s4.heap.push { cls := .type "slice", data := .fields #[vl, vu, vs] } } := I4.kept (t' := s4.toks) fun b ob q => Heap.get?_push_of_some _ q
  rcases q1 with q1 | q1
  · obtain ⟨a, xs, ex, hx, q⟩ := q1
    subst ex
    cases r1
    obtain ⟨its, r, ht, hz⟩ := I5.list hx
    have hlen := r.length
    show wpAny (model X.prog X.w) X.A (subscriptTail e (.Slice none none (some (.UnaryOp .USub (.Constant (.int 1) k p1) p2)) p3) (.ref a) (.ref s4.heap.objs.size)) (EP X pins σ Q) X.xe { s4 with heap := s4.heap.push { cls := .type "slice", data := .fields #[vl, vu, vs] } }
    refine tail_any (ops := [.ref a, .ref s4.heap.objs.size]) ht.isList.typeIs (PySem.slot_list_getitem.lookup) ?_ (by with_unfolding_all rfl)
    refine wpAny_getItem_list_slice ht.isList (Heap.IsSliceOf.new _ vl vu vs) pl pu ps (by decide) ?_ (by rw [List.size_toArray]; omega)
    rw [PySem.W.krv_pick]
    refine ⟨.ref _, _, I5.laid (t' := s4.toks) (o := .lst xs.reverse) (fun b ob q => Heap.get?_push_of_some _ q) (Nat.le_refl _) ?_, rfl, q _ (I5.hok.fresh (Nat.le_refl _))⟩
    exact ⟨by rw [List.length_reverse]; exact hz, _, 0, r.reverse, Heap.get?_push_size _ rfl⟩
  · obtain ⟨a, xs, ex, hx, q⟩ := q1
    subst ex
    cases r1
    obtain ⟨its, r, ht, hz⟩ := I5.tuple hx
    have hlen := r.length
    show wpAny (model X.prog X.w) X.A (subscriptTail e (.Slice none none (some (.UnaryOp .USub (.Constant (.int 1) k p1) p2)) p3) (.ref a) (.ref s4.heap.objs.size)) (EP X pins σ Q) X.xe { s4 with heap := s4.heap.push { cls := .type "slice", data := .fields #[vl, vu, vs] } }
    refine tail_any (ops := [.ref a, .ref s4.heap.objs.size]) ht.typeIs (PyProof.Rows.slot_tuple_getitem.lookup) ?_ (by with_unfolding_all rfl)
    refine getItem_tuple_rev ht (Heap.IsSliceOf.new _ vl vu vs) pl pu ps ?_ (by rw [List.size_toArray]; omega)
    exact mkT0 I5 (its := its.reverse) (xs := xs.reverse) r.reverse (by rw [List.length_reverse]; exact hz) q
def D.revX : D → T D
  | .lst _ xs => .ret (newL xs.reverse)
  | .tup xs => .ret (.tup xs.reverse)
  | _ => .fail
theorem o_revX : Op1 K G (rRevX K) D.revX := by
  intro Z H d1 v1 F1 Q t1 p h
  cases d1 <;> first | exact h.elim | skip
  · obtain ⟨pa, ws, e1, s1, r1, _⟩ := tup_val t1
    exact .inr ⟨pa, ws, e1, s1.sq, fun q o ho n => h Z _ _ [] (.tup0 p r1.rev ho n)⟩
  · obtain ⟨pa, ws, e1, s1, b1⟩ := lst_bor t1 (fun z hz => (p.own z hz).2) p.zf
    exact .inl ⟨pa, ws, e1, .of s1, fun q n => h Z _ _ _ (.newL (m := .bor) (F := []) p b1.rev n)⟩
theorem ee_revX {e : Expr} {de : Env → T D} {k : Nat} {p1 p2 p3 pos : Pos} (he : PE X e (RdE X.K G de)) : PE X (.Subscript e (.Slice none none (some (.UnaryOp .USub (.Constant (.int 1) k p1) p2)) p3) pos) (RdE X.K G (un1 D.revX de)) := PE.imp (pe_revX he) fun _ _ _ h => rd1 o_revX h
end
/-! ## sorted(t), t a tuple of whole numbers -/
section
variable {prog : Program} {w : World} {A : Around} {E : Value → Shared → Prop} {s : Shared}
theorem collect_tupS {l : Addr} {vs : List Value} {Q : List Value → Shared → Prop} (hl : IsTup s.heap l vs.toArray)
    (h : Q vs { s with heap := (s.heap.push (seqObj "list" #[] 0)).update s.heap.objs.size (Obj.mapSeq (· ++ vs.toArray)) }) (hsz : vs.length ≤ sizeLine) :
    wpAny (model prog w) A (collect (.ref l)) Q E s := by
  obtain ⟨o, ho, hc, n, hd⟩ := id hl
  unfold collect
  refine wpAny_bind (wpAny_runValue (codeAny_builtin entry_proto_collect' ?_))
  show wpAny _ _ (do again (.builtin "list.__iadd__" ⟨[← newList [], .ref l], []⟩)) _ _ s
  refine wpAny_bind (wpAny_newList (wpAny_pure ⟨Code.quiet_builtin _ (by decide +kernel), codeAny_builtin entry_list_iadd' ?_⟩))
  show wpAny _ _ (Builtin.List.listExtendWith (.ref s.heap.objs.size) (.ref l) (.ref s.heap.objs.size)) _ _ { s with heap := s.heap.push (seqObj "list" #[] 0) }
  unfold Builtin.List.listExtendWith
  have ho' : (s.heap.push (seqObj "list" #[] 0)).get? l = some o := Heap.get?_push_of_some _ ho
  refine wpAny_bind (wpAny_typeOf (T := "tuple") ⟨o, ho', hc⟩ ?_)
  have ht : (Value.type "tuple" == Value.type "tuple") = true := by rfl
  rw [if_pos (by rw [ht]; simp)]
  refine wpAny_bind (listItems_at ho' hd ?_)
  refine wpAny_bind (listItems_at (xs := #[]) (n := 0) (Heap.get?_push_size _ rfl) rfl ?_)
  rw [if_neg (by simp)]
  refine wpAny_bind (listUpdate_at (xs := #[]) (n := 0) (Heap.get?_push_size _ rfl) rfl ?_ (Nat.zero_le _) (by show (#[] ++ vs.toArray).size ≤ sizeLine + 1; simp only [Array.size_append, List.size_toArray, List.length_nil]; omega))
  refine wpAny_pure ?_
  show wpAny (model prog w) A (do
      let o ← load s.heap.objs.size
      match o.data with
      | .seq xs _ => pure xs.toList
      | _ => unsupported "internal:collect") Q E { s with heap := (s.heap.push (seqObj "list" #[] 0)).update s.heap.objs.size (Obj.mapSeq (· ++ vs.toArray)) }
  refine wpAny_bind (wpAny_load (get?_update_seq (Heap.get?_push_size _ rfl) _) ?_)
  show wpAny _ _ (pure ((#[] : Array Value) ++ vs.toArray).toList) Q E _
  rw [show ((#[] : Array Value) ++ vs.toArray).toList = vs by simp]
  exact wpAny_pure h
theorem sorted_ordT {l : Addr} {vs : List Value} {ltv : Value → Value → Bool} {Q : Value → Shared → Prop} (O : SrtO.Swo ltv) (hl : IsTup s.heap l vs.toArray) (hz : vs.length ≤ sizeLine)
    (hS : 2 ≤ vs.length → ∀ (h₁ : Heap) (a : Addr), h₁.get? a = some (seqObj "list" vs.toArray 0) → (∀ b o, s.heap.get? b = some o → b ≠ a ∧ h₁.get? b = some o) → SrtO.SortableO prog w A.in1.in1 { s with heap := h₁ } a vs ltv)
    (h : ∀ out : List Value, SrtO.Srtd ltv out → SrtO.Stb ltv out vs → Q (.ref (s.heap.objs.size + 1)) { s with heap := sortedAll s.heap vs out.toArray }) :
    wpAny (model prog w) A (call (.builtin "sorted") [.ref l]) Q E s := by
  refine Calls.call_function_entry kind_sorted plain_sorted entry_sorted (args_sorted1 _) ?_
  unfold Builtin.«sorted»
  refine wpAny_bind (m := checkCount "sorted" 1 1 _) (wpAny_pure ?_)
  refine wpAny_bind (collect_tupS hl ?_ hz)
  refine wpAny_bind (wpAny_newList ?_ hz)
  have hsz : ((s.heap.push (seqObj "list" #[] 0)).update s.heap.objs.size (Obj.mapSeq (· ++ vs.toArray))).objs.size = s.heap.objs.size + 1 := by
    rw [Heap.size_update, size_push']
  have hoL : (((s.heap.push (seqObj "list" #[] 0)).update s.heap.objs.size (Obj.mapSeq (· ++ vs.toArray))).push (seqObj "list" vs.toArray 0)).get? (s.heap.objs.size + 1) = some (seqObj "list" vs.toArray 0) := by
    rw [← hsz]; exact Heap.get?_push_size _ rfl
  have keep : ∀ b o, s.heap.get? b = some o → b ≠ s.heap.objs.size + 1 ∧ (((s.heap.push (seqObj "list" #[] 0)).update s.heap.objs.size (Obj.mapSeq (· ++ vs.toArray))).push (seqObj "list" vs.toArray 0)).get? b = some o := fun b o q => by
    have hlt : b < s.heap.objs.size := Heap.lt_size q
    refine ⟨Nat.ne_of_lt (Nat.lt_succ_of_lt hlt), Heap.get?_push_of_some _ ?_⟩
    rw [Heap.get?_update_ne _ _ _ _ (Nat.ne_of_lt hlt)]
    exact Heap.get?_push_of_some _ q
  show wpAny _ _ _ _ _ { s with heap := ((s.heap.push (seqObj "list" #[] 0)).update s.heap.objs.size (Obj.mapSeq (· ++ vs.toArray))).push (seqObj "list" vs.toArray 0) }
  rw [hsz]
  refine wpAny_bind (wpAny_holding (wpAny_call_entry slot_list_sort ⟨_, hoL, rfl⟩ entry_list_sort (SrtO.list_sort_ord O hoL hz (fun h2 => hS h2 _ _ hoL keep) fun out hs hb => ⟨_, rfl, ?_⟩) (args_list_sort _)))
  exact wpAny_pure ⟨_, rfl, h out hs hb⟩
end
section
variable {K : PySem.W.Frag} {G : Gh} {X : Cx}
def rSortedTI (K : PySem.W.Frag) : List V → Hp → VK → Prop := fun vs H Q => ∃ (a : Addr) (ns : List Int), vs = [V.ref a] ∧ SqT K H a (ns.map V.int) ∧
  ∀ (ns' : List Int) (p : Addr), ns'.Perm ns → ns'.Pairwise (· ≤ ·) → H p = none → Q (.ref p) (upd H p (.lst (ns'.map V.int)))
theorem cr_sortedTI : CallR X (.builtin "sorted") (rSortedTI X.K) := by
  intro pins s σ H vs us Q I r h
  obtain ⟨a, ns, rfl, hs, q⟩ := h
  obtain ⟨its, rv, hl, hz⟩ := I.tuple hs
  rw [Vals.ref1 r]
  have hi := rv.ints
  refine sorted_ordT SrtO.swo_int hl (by rw [← rv.length]; exact hz) (fun h2 h₁ a' _ _ => SrtO.ints_sortable hi h2) fun out h1 h2 => ?_
  obtain ⟨k1, k2, k3⟩ := SrtO.ints_out hi h1 h2
  obtain ⟨ep, he'⟩ := PyProof.Rows.sortedAll_at s.heap its out.toArray
  have hlen : ((out.map SrtO.iv).map V.int).length ≤ sizeLine := by
    rw [List.length_map, k2.length_eq]
    rw [List.length_map] at hz
    exact hz
  exact ⟨.ref _, upd H (s.heap.objs.size + 1) (.lst ((out.map SrtO.iv).map V.int)), I.laid (t' := s.toks) (fun _ _ => PyProof.Rows.sortedAll_old) (Nat.le_succ _) ⟨hlen, out, ep, vals_of_ints k1, he'⟩, rfl, q _ _ k2 k3 (I.hok.fresh (Nat.le_succ _))⟩
def D.sortedX : D → T D
  | .tup xs => (T.ofO (intsOf xs)).bind fun ns => .ret (.lst .own ((isort ltI ns).map D.int))
  | d => D.sorted d
def rSort3 (K : PySem.W.Frag) : List V → Hp → VK → Prop := fun vs H Q => rSort2 K vs H Q ∨ rSortedTI K vs H Q
theorem o_sortedX : Op1 K G (fun x H Q => rSort3 K [x] H Q) D.sortedX := by
  intro Z H d1 v1 F1 Q t1 p h
  cases d1 with
  | tup xs =>
    obtain ⟨ns, en, hh⟩ := mat_o h
    clear h
    obtain ⟨pa, ws, e1, s1, r1, _⟩ := tup_val t1
    have ew := rep_ints r1 ns en
    subst ew
    refine .inr ⟨pa, ns, by rw [e1], s1.sq, fun ns' q hp hs n => ?_⟩
    have es : ns' = isort ltI ns := srt_uniq anti_int (hs.imp fun {x y} h => by unfold ltI; simp; omega) (isort_srtd swo_int ns) (hp.trans (isort_perm ns).symm)
    subst es
    exact hh Z _ _ _ (.lst p (rep_int _) (List.nil_sublist _) n)
  | lst f xs => exact .inl (o_sorted Z H _ v1 F1 Q t1 p h)
  | _ => exact h.elim
theorem cr_sorted3 (hu : X.A.units + 10 < cLine) : CallR X (.builtin "sorted") fun vs H Q => ∃ v, vs = [v] ∧ rSort3 X.K [v] H Q := CallR.imp (CallR.or (CallR.or cr_sortedI (cr_sortTI hu)) cr_sortedTI) fun vs H Q ⟨v, e, h⟩ => by rw [e]; exact h
end
end Dn

set_option Elab.async false
set_option linter.all false
set_option maxRecDepth 100000
set_option maxHeartbeats 600000
namespace Dn
open PySem PySem.Spec PyProof.Rows L2
/-! ## a fresh list frozen within an expression (nothing is done) -/
section
variable {K : PySem.W.Frag} {G : Gh} {X : Cx}
def D.frzT : D → T D
  | .lst .own xs => .ret (.lst .frz xs)
  | .dic .own xs => .ret (.dic .frz xs)
  | d => .ret d
theorem rdE_frz {a : Env → T D} {σ : L2.St} {H : Hp} {Q : VK} (h : RdE K G (un1 D.frzT a) σ H Q) : RdE K G a σ H Q := by
  obtain ⟨Z, env, S, h⟩ := h
  refine ⟨Z, env, S, (T.holds_bind h).mono fun d h Z1 v H1 F o => ?_⟩
  have pass : D.frzT d = .ret d → Q v H1 := fun e => by
    rw [e] at h
    exact h Z1 v H1 F o
  cases d with
  | lst f xs =>
    cases f with
    | own =>
      rcases o.tmp with ⟨b, _, _⟩ | ⟨_, r⟩
      · cases b
      have kn : ∀ p ∈ F, H1 p ≠ none := fun p hp => o.tmp.known p hp
      refine h (fun p => Z1 p ∨ p ∈ F) v H1 [] ⟨⟨o.go.grow, o.go.potA, o.go.potB, fun p z => .inl (o.go.zle p z), fun p z => z.elim (o.go.znew p) fun m => .inr (o.new.new p m).1, o.go.zA, fun p z => z.elim (o.go.zB p) fun m => ⟨kn p m, (o.new.new p m).2.2⟩⟩, .inr ⟨rfl, ?_⟩, .nil⟩
      have r2 := r.freeze
      cases r2 with
      | sc e _ => simp [scV] at e
      | shr e0 e1 e2 h1 h =>
        simp [eff] at e0
        subst e0
        cases h
        exact .shr rfl e1 e2 h1 .nil
    | _ => exact pass rfl
  | dic f xs =>
    cases f with
    | own =>
      rcases o.tmp with ⟨b, _, _⟩ | ⟨_, r⟩
      · cases b
      have kn : ∀ p ∈ F, H1 p ≠ none := fun p hp => o.tmp.known p hp
      refine h (fun p => Z1 p ∨ p ∈ F) v H1 [] ⟨⟨o.go.grow, o.go.potA, o.go.potB, fun p z => .inl (o.go.zle p z), fun p z => z.elim (o.go.znew p) fun m => .inr (o.new.new p m).1, o.go.zA, fun p z => z.elim (o.go.zB p) fun m => ⟨kn p m, (o.new.new p m).2.2⟩⟩, .inr ⟨rfl, ?_⟩, .nil⟩
      have r2 := r.freeze
      cases r2 with
      | sc e _ => simp [scV] at e
      | dshr e0 e1 e2 e3 h1 h =>
        simp [eff] at e0
        subst e0
        cases h
        exact .dshr rfl e1 e2 e3 h1 .nil
    | _ => exact pass rfl
  | _ => exact pass rfl
theorem ee_frz {e : Expr} {de : Env → T D} (he : PE X e (RdE X.K G de)) : PE X e (RdE X.K G (un1 D.frzT de)) := PE.imp he fun _ _ _ h => rdE_frz h
end
end Dn

set_option Elab.async false
set_option linter.all false
set_option maxRecDepth 100000
set_option maxHeartbeats 600000
namespace Dn
open PySem PySem.Spec PyProof.Rows L2
/-! ## s * k -/
def repS (x : Str) (n : Nat) : Str := ⟨(List.replicate n x.cps).foldl (· ++ ·) #[]⟩
section
variable {K : PySem.W.Frag} {G : Gh} {X : Cx}
def rMulS : R2 := fun x y H Q => ∃ (a : Str) (k : Int), x = .str a ∧ y = .int k ∧ 1 ≤ a.length ∧ a.length ≤ 1000 ∧ 2 ≤ k ∧ k ≤ 1000 ∧ (repS a k.toNat).length ≤ 1000000 ∧ Q (.str (repS a k.toNat)) H
theorem op_mulS : OpR X (binaryOp .Mult) rMulS := by
  intro pins s σ H x y v u Q I rx ry h
  obtain ⟨a, k, rfl, rfl, l0, l1, k0, k1, c, q⟩ := h
  obtain ⟨t, rfl⟩ := rx
  obtain ⟨t', rfl⟩ := ry
  have hm : a.length * k.toNat ≤ 1000 * 1000 := Nat.mul_le_mul l1 (by omega)
  refine PySem.P.mul_str (by
      rw [decide_eq_false (by omega), decide_eq_false (by omega)]; rfl) (fun _ _ g => ?_) (fun _ _ => ?_) ?_
  · have : (2 ^ 63 - 1 : Int) / k ≥ (2 ^ 63 - 1) / 1000 := by
      refine Int.le_ediv_of_mul_le (by omega) ?_
      have : ((2 ^ 63 - 1 : Int) / 1000) * k ≤ (2 ^ 63 - 1 : Int) / 1000 * 1000 := Int.mul_le_mul_of_nonneg_left k1 (by decide)
      have h2 : (2 ^ 63 - 1 : Int) / 1000 * 1000 ≤ 2 ^ 63 - 1 := by decide
      omega
    have h3 : ((2 ^ 63 - 1 : Int) / 1000) > 1000 := by decide
    omega
  · unfold Builtin.Str.tooLong
    refine decide_eq_false ?_
    rw [sizeLine_eq]
    omega
  · rw [if_neg (by omega), if_neg (by simp; omega)]
    refine ⟨?_, ?_⟩
    · have : (repS a k.toNat).length ≤ sizeLine := size_small c
      exact this
    · exact ⟨.str _, H, I.tok _, ⟨_, rfl⟩, q⟩
def D.mulX : D → D → T D
  | .str x, .int k => if 1 ≤ x.length ∧ x.length ≤ 1000 ∧ 2 ≤ k ∧ k ≤ 1000 ∧ (repS x k.toNat).length ≤ 1000000 then .ret (.str (repS x k.toNat)) else .fail
  | a, b => D.mul a b
def rMul4 (K : PySem.W.Frag) : R2 := fun x y H Q => rMul3 K x y H Q ∨ rMulS x y H Q
theorem op_mul4 : OpR X (binaryOp .Mult) (rMul4 X.K) := op_mul3.or op_mulS
theorem o_mulX : Op2 K G (rMul4 K) D.mulX := by
  intro Z H d1 v1 F1 d2 v2 F2 Q t1 t2 p h
  cases d1 with
  | str x =>
    cases d2 with
    | int k =>
      obtain ⟨c, h⟩ := ite_holds h
      exact .inr ⟨x, k, str_val t1, int_val t2, c.1, c.2.1, c.2.2.1, c.2.2.2.1, c.2.2.2.2, h Z _ H [] (.sc p rfl)⟩
    | _ => exact h.elim
  | _ => exact .inl (o_mul Z H _ v1 F1 d2 v2 F2 Q t1 t2 p h)
end
end Dn

set_option Elab.async false
set_option linter.all false
set_option maxRecDepth 100000
set_option maxHeartbeats 600000
namespace Dn
open PySem PySem.Spec PyProof.Rows L2
/-! ## repr of things with empty dicts within -/
mutual
inductive DpX (K : PySem.W.Frag) (H : Hp) : V → PyData → Prop
  | non : DpX K H .non .none
  | bl (b : Bool) : DpX K H (.bl b) (.bool b)
  | int (i : Int) : DpX K H (.int i) (.int i)
  | str (x : Str) : DpX K H (.str x) (.str x)
  | lst {a : Addr} {xs : List V} {ds : List PyData} : H a = some (.lst xs) → DpXs K H xs ds → DpX K H (.ref a) (.list ds)
  | tup {a : Addr} {xs : List V} {ds : List PyData} : SqT K H a xs → DpXs K H xs ds → DpX K H (.ref a) (.tuple ds)
  | dic {a : Addr} : DicH K H a [] [] → DpX K H (.ref a) (.dict [])
inductive DpXs (K : PySem.W.Frag) (H : Hp) : List V → List PyData → Prop
  | nil : DpXs K H [] []
  | cons {v : V} {vs : List V} {d : PyData} {ds : List PyData} : DpX K H v d → DpXs K H vs ds → DpXs K H (v :: vs) (d :: ds)
end
/-! what a heap holds, its dicts empty and none of them the table of modules -/
mutual
inductive RdZ (h : Heap) : Value → PyData → List Addr → Prop
  | non : RdZ h .none .none []
  | bl (b : Bool) : RdZ h (.bool b) (.bool b) []
  | int (i : Int) (t : Tok) : RdZ h (.int i t) (.int i) []
  | str (x : Str) (t : Tok) : RdZ h (.str x t) (.str x) []
  | lst {a : Addr} {o : Obj} {vs : Array Value} {n : Nat} {xs : List PyData} {as : List Addr} : h.get? a = some o → o.cls = .type "list" → o.data = .seq vs n → RdZs h vs.toList xs as → RdZ h (.ref a) (.list xs) (a :: as)
  | tup {a : Addr} {o : Obj} {vs : Array Value} {n : Nat} {xs : List PyData} {as : List Addr} : h.get? a = some o → o.cls = .type "tuple" → o.data = .seq vs n → RdZs h vs.toList xs as → RdZ h (.ref a) (.tuple xs) as
  | dic {a : Addr} {o : Obj} {n : Nat} : h.get? a = some o → o.cls = .type "dict" → o.data = .dict #[] n → (a == sysModules) = false → RdZ h (.ref a) (.dict []) [a]
inductive RdZs (h : Heap) : List Value → List PyData → List Addr → Prop
  | nil : RdZs h [] [] []
  | cons {v : Value} {vs : List Value} {d : PyData} {ds : List PyData} {as bs : List Addr} : RdZ h v d as → RdZs h vs ds bs → RdZs h (v :: vs) (d :: ds) (as ++ bs)
end
mutual
theorem RdZ.rd {h : Heap} : ∀ {v : Value} {d : PyData} {as : List Addr}, RdZ h v d as → Reads h v d as
  | _, _, _, .non => .none
  | _, _, _, .bl b => .bool b
  | _, _, _, .int i t => .int i t
  | _, _, _, .str x t => .str x t
  | _, _, _, .lst h1 h2 h3 h4 => .list h1 h2 h3 h4.rds
  | _, _, _, .tup h1 h2 h3 h4 => .tuple h1 h2 h3 h4.rds
  | _, _, _, .dic h1 h2 h3 _ => .dict (as := []) (bs := []) h1 h2 h3 .nil .nil
theorem RdZs.rds {h : Heap} : ∀ {v : List Value} {d : List PyData} {as : List Addr}, RdZs h v d as → ReadsAll h v d as
  | _, _, _, .nil => .nil
  | _, _, _, .cons h1 h2 => .cons h1.rd h2.rds
end
section
variable {prog : Program} {w : World} {h : Heap}
/-- what repr tells of it, by the library's rules -/
abbrev Sz (prog : Program) (w : World) (h : Heap) (v : Value) (d : PyData) : Prop := ∃ bs, ReadAtMost h d.depth bs ∧ ReprK prog w bs h d.depth v d.shown
abbrev Szs (prog : Program) (w : World) (h : Heap) (vs : List Value) (ds : List PyData) : Prop := ∃ bs, ReadAtMost h (PyData.depthAll ds) bs ∧ ReprAllK prog w bs h (PyData.depthAll ds) vs (PyData.shownAll ds)
theorem sz_lst {a : Addr} {o : Obj} {vs : Array Value} {n : Nat} {xs : List PyData} {as : List Addr} (h1 : h.get? a = some o) (h2 : o.cls = .type "list") (h3 : o.data = .seq vs n) (r : Reads h (.ref a) (.list xs) as) (s : Szs prog w h vs.toList xs) : Sz prog w h (.ref a) (.list xs) := by
  obtain ⟨bs, hb, hk⟩ := s
  have up : PyData.depthAll xs < (PyData.list xs).depth := by simp only [PyData.depth]; omega
  have na := not_mem_of_deeper r up hb
  refine ⟨_, .cons r (Nat.le_of_lt up) hb, ?_⟩
  simp only [PyData.depth, PyData.shown]
  obtain ⟨l⟩ := vs
  cases l with
  | cons x l => exact .list h1 h2 h3 na (by simpa using hk.length_eq) fun i y e => hk.item i y (by simpa using e)
  | nil =>
    generalize hts : PyData.shownAll xs = ts at hk
    cases (show ReprAllK prog w bs h _ [] ts from hk)
    rw [listText_nil]
    exact .listEmpty h1 h2 h3
theorem sz_tup {a : Addr} {o : Obj} {vs : Array Value} {n : Nat} {xs : List PyData} {as : List Addr} (h1 : h.get? a = some o) (h2 : o.cls = .type "tuple") (h3 : o.data = .seq vs n) (r : Reads h (.ref a) (.tuple xs) as) (s : Szs prog w h vs.toList xs) : Sz prog w h (.ref a) (.tuple xs) := by
  obtain ⟨bs, hb, hk⟩ := s
  have up : PyData.depthAll xs < (PyData.tuple xs).depth := by simp only [PyData.depth]; omega
  refine ⟨_, .cons r (Nat.le_of_lt up) hb, ?_⟩
  simp only [PyData.depth, PyData.shown]
  exact .tuple h1 h2 h3 (not_mem_of_deeper r up hb) hk
theorem sz_dic {a : Addr} {o : Obj} {n : Nat} (h1 : h.get? a = some o) (h2 : o.cls = .type "dict") (h3 : o.data = .dict #[] n) (hs : (a == sysModules) = false) : Sz prog w h (.ref a) (.dict []) := by
  have r : Reads h (.ref a) (.dict []) [a] := .dict (as := []) (bs := []) h1 h2 h3 .nil .nil
  refine ⟨_, .cons (bs := []) (n := 0) r (Nat.zero_le _) (fun _ h => nomatch h), ?_⟩
  simp only [PyData.depth, PyData.shown, PyData.shownKv]
  exact .dict h1 h2 h3 hs (List.not_mem_nil) .nil
theorem szs_cons {v : Value} {vs : List Value} {d : PyData} {ds : List PyData} (s : Sz prog w h v d) (ss : Szs prog w h vs ds) : Szs prog w h (v :: vs) (d :: ds) := by
  obtain ⟨b1, r1, k1⟩ := s
  obtain ⟨b2, r2, k2⟩ := ss
  have l1 : d.depth ≤ PyData.depthAll (d :: ds) := by simp only [PyData.depthAll]; omega
  have l2 : PyData.depthAll ds ≤ PyData.depthAll (d :: ds) := by simp only [PyData.depthAll]; omega
  refine ⟨b1 ++ b2, (r1.mono l1).append (r2.mono l2), ?_⟩
  simp only [PyData.shownAll]
  exact .cons ((k1.more fun _ => List.mem_append_left _).level_le l1) (k2.more_le (fun _ => List.mem_append_right _) l2)
mutual
theorem RdZ.sz : ∀ {v : Value} {d : PyData} {as : List Addr}, RdZ h v d as → d.showable = true → d.shown.length ≤ sizeLine → Sz prog w h v d
  | _, _, _, .non, _, _ => ⟨[], (fun _ h => nomatch h), by simp only [PyData.shown]; exact .of_is ReprIs.none _ _ _⟩
  | _, _, _, .bl b, _, _ => ⟨[], (fun _ h => nomatch h), by simp only [PyData.shown]; exact .of_is (ReprIs.bool b) _ _ _⟩
  | _, _, _, .int i t, hs, _ => ⟨[], (fun _ h => nomatch h), by simp only [PyData.shown]; exact .of_is (ReprIs.int t (by simpa [PyData.showable] using hs)) _ _ _⟩
  | _, _, _, .str x t, _, hz => ⟨[], (fun _ h => nomatch h), by simp only [PyData.shown]; exact .of_is (ReprIs.str x t (by simpa only [PyData.shown] using hz)) _ _ _⟩
  | _, _, _, .lst h1 h2 h3 h4, hs, hz => sz_lst h1 h2 h3 (.list h1 h2 h3 h4.rds) (h4.szs (by simpa [PyData.showable] using hs) fun _ ht => Nat.le_trans (listText_mem_le ht) (by simpa only [PyData.shown] using hz))
  | _, _, _, .tup h1 h2 h3 h4, hs, hz => sz_tup h1 h2 h3 (.tuple h1 h2 h3 h4.rds) (h4.szs (by simpa [PyData.showable] using hs) fun _ ht => Nat.le_trans (tupleText_mem_le ht) (by simpa only [PyData.shown] using hz))
  | _, _, _, .dic h1 h2 h3 h4, _, _ => sz_dic h1 h2 h3 h4
theorem RdZs.szs : ∀ {vs : List Value} {ds : List PyData} {as : List Addr}, RdZs h vs ds as → PyData.showableAll ds = true → (∀ t ∈ PyData.shownAll ds, t.length ≤ sizeLine) → Szs prog w h vs ds
  | _, _, _, .nil, _, _ => ⟨[], (fun _ h => nomatch h), by simp only [PyData.shownAll]; exact .nil⟩
  | _, _, _, .cons (d := d) (ds := ds) r rs, hs, hz => by
    have q : d.showable = true ∧ PyData.showableAll ds = true := by simpa [PyData.showableAll] using hs
    simp only [PyData.shownAll, List.mem_cons, forall_eq_or_imp] at hz
    exact szs_cons (r.sz q.1 hz.1) (rs.szs q.2 hz.2)
end
theorem szs_of {v : Value} {d : PyData} (s : Sz prog w h v d) : Szs prog w h [v] [d] := szs_cons s ⟨[], (fun _ h => nomatch h), by simp only [PyData.shownAll]; exact .nil⟩
/-- a thing that lies at an address: how it is shown -/
theorem shows_lst {a : Addr} {o : Obj} {vs : Array Value} {n : Nat} {xs : List PyData} {as : List Addr} (h1 : h.get? a = some o) (h2 : o.cls = .type "list") (h3 : o.data = .seq vs n) (r : Reads h (.ref a) (.list xs) as) (s : Szs prog w h vs.toList xs) (hz : (PyData.list xs).shown.length ≤ sizeLine) : ∃ T idr, ShowsBy prog w h a (.list xs) T idr := by
  obtain ⟨bs, hb, hk⟩ := s
  have up : PyData.depthAll xs < (PyData.list xs).depth := by simp only [PyData.depth]; omega
  have na := not_mem_of_deeper r up hb
  have hz' : (listText (PyData.shownAll xs)).length ≤ sizeLine := by simpa only [PyData.shown] using hz
  refine ⟨_, _, F.slot_list_repr.toG, F.slot_list_str, F.slot_list_format, fun s hk0 => ⟨o, hk0 _ _ h1, h2⟩, fun A E s Q hg hu hk0 hQ => ?_⟩
  simp only [PyData.depth] at hu
  simp only [PyData.shown] at hQ
  obtain ⟨l⟩ := vs
  cases l with
  | cons x l => exact call_list_reprK h1 h2 h3 na (by simpa using hk.length_eq) (fun i y e => hk.item i y (by simpa using e)) hg (fun b _ => Clear.nil b) hu hk0 hQ hz'
  | nil =>
    generalize hts : PyData.shownAll xs = ts at hk hQ
    cases (show ReprAllK prog w bs h _ [] ts from hk)
    rw [listText_nil] at hQ
    exact call_list_repr_empty ⟨o, hk0 _ _ h1, h2⟩ (hk0 _ _ h1) h3 (hQ s.heap _ _ fun _ _ e => e)
theorem shows_tup {a : Addr} {o : Obj} {vs : Array Value} {n : Nat} {xs : List PyData} {as : List Addr} (h1 : h.get? a = some o) (h2 : o.cls = .type "tuple") (h3 : o.data = .seq vs n) (r : Reads h (.ref a) (.tuple xs) as) (s : Szs prog w h vs.toList xs) (hz : (PyData.tuple xs).shown.length ≤ sizeLine) : ∃ T idr, ShowsBy prog w h a (.tuple xs) T idr := by
  obtain ⟨bs, hb, hk⟩ := s
  have up : PyData.depthAll xs < (PyData.tuple xs).depth := by simp only [PyData.depth]; omega
  refine ⟨_, _, F.slot_tuple_repr, F.slot_tuple_str, F.slot_tuple_format, fun s hk0 => ⟨o, hk0 _ _ h1, h2⟩, fun A E s Q hg hu hk0 hQ => ?_⟩
  simp only [PyData.depth] at hu
  simp only [PyData.shown] at hQ
  exact call_tuple_reprK h1 h2 h3 (not_mem_of_deeper r up hb) hk hg (fun b _ => Clear.nil b) hu hk0 hQ (by simpa only [PyData.shown] using hz)
theorem RdZ.shows {a : Addr} {d : PyData} {as : List Addr} (r : RdZ h (.ref a) d as) (hs : d.showable = true) (hz : d.shown.length ≤ sizeLine) : ∃ T idr, ShowsBy prog w h a d T idr := by
  cases r with
  | lst h1 h2 h3 h4 => exact shows_lst h1 h2 h3 (.list h1 h2 h3 h4.rds) (h4.szs (by simpa [PyData.showable] using hs) fun _ ht => Nat.le_trans (listText_mem_le ht) (by simpa only [PyData.shown] using hz)) hz
  | tup h1 h2 h3 h4 => exact shows_tup h1 h2 h3 (.tuple h1 h2 h3 h4.rds) (h4.szs (by simpa [PyData.showable] using hs) fun _ ht => Nat.le_trans (tupleText_mem_le ht) (by simpa only [PyData.shown] using hz)) hz
  | dic h1 h2 h3 h4 =>
    exact showsBy_of_reads (.dict (as := []) (bs := []) h1 h2 h3 .nil .nil) hs (fun _ hm => by
      have hm : sysModules ∈ [a] := hm
      rw [List.mem_singleton] at hm
      subst hm
      simp at h4) hz
theorem reprZ_call {A : Around} {E : Value → Shared → Prop} {s : Shared} {Q : Value → Shared → Prop} {a : Addr} {d : PyData} {as : List Addr} (r : RdZ s.heap (.ref a) d as) (hs : d.showable = true) (hz : d.shown.length ≤ sizeLine) (hg : A.guards = some []) (hu : A.units + (d.depth + 1) < cLine)
    (hQ : ∀ h' u tk, (∀ b o, s.heap.get? b = some o → h'.get? b = some o) → Q (.str d.shown u) { s with heap := h', toks := tk }) : wpAny (model prog w) A (call (.builtin "repr") [.ref a]) Q E s := by
  obtain ⟨T, idr, S⟩ := r.shows (prog := prog) (w := w) hs hz
  exact call_repr_slot (by omega) (S.typeIs s fun _ _ e => e) S.slotRepr (S.call A.in1 E s _ hg (by show A.units + 1 + d.depth < cLine; omega) (fun _ _ e => e) fun h' u tk hk => ⟨_, _, rfl, hQ h' u tk hk⟩)
end
section
variable {X : Cx} {pins : List (Addr × Obj)} {σ : L2.St} {H : Hp} {s : Shared}
mutual
theorem DpX.reads (I : Inv X pins σ H s) : ∀ (d : PyData) (v : V) (u : Value), DpX X.K H v d → RelV v u → ∃ as, RdZ s.heap u d as
  | .none, _, _, h, r => by
    cases h
    cases r
    exact ⟨_, .non⟩
  | .bool b, _, _, h, r => by
    cases h
    cases r
    exact ⟨_, .bl b⟩
  | .int i, _, _, h, r => by
    cases h
    obtain ⟨t, rfl⟩ := r
    exact ⟨_, .int i t⟩
  | .str x, _, _, h, r => by
    cases h
    obtain ⟨t, rfl⟩ := r
    exact ⟨_, .str x t⟩
  | .list ds, _, _, h, r => by
    cases h with
    | lst hs ha =>
      cases r
      obtain ⟨its, rv, ⟨o, n, ho, hc, _, hd⟩, _⟩ := I.list (.of hs)
      obtain ⟨as, hr⟩ := DpXs.reads I ds _ its ha rv
      exact ⟨_, .lst ho hc hd hr⟩
  | .tuple ds, _, _, h, r => by
    cases h with
    | tup hs ha =>
      cases r
      obtain ⟨its, rv, ⟨o, ho, hc, n, hd⟩, _⟩ := I.tuple hs
      obtain ⟨as, hr⟩ := DpXs.reads I ds _ its ha rv
      exact ⟨_, .tup ho hc hd hr⟩
  | .dict kvs, _, _, h, r => by
    cases h with
    | dic hd =>
      cases r
      obtain ⟨hd0, hz, hl, nd, o, es, ep, vs, ho, hex, hdt, rv, he⟩ := (show DicR _ [] [] s.heap from (I.hok _ _ hd.1).1)
      cases rv
      have e0 : es = #[] := by
        apply Array.ext'
        rw [he]; rfl
      subst e0
      exact ⟨_, .dic ho hex.1 hdt hd0⟩
theorem DpXs.reads (I : Inv X pins σ H s) : ∀ (ds : List PyData) (vs : List V) (us : List Value), DpXs X.K H vs ds → Vals vs us → ∃ as, RdZs s.heap us ds as
  | [], _, _, h, r => by
    cases h
    cases r
    exact ⟨_, .nil⟩
  | d :: ds, _, _, h, r => by
    cases h with
    | cons h1 h2 =>
      cases r with
      | cons r1 r2 =>
        obtain ⟨as, q1⟩ := DpX.reads I d _ _ h1 r1
        obtain ⟨bs, q2⟩ := DpXs.reads I ds _ _ h2 r2
        exact ⟨_, .cons q1 q2⟩
end
end
mutual
/-- so deep at most, of short numbers, its dicts empty -/
def fitX : Nat → D → Bool
  | _, .non => true | _, .bl _ => true | _, .int i => decide (-1000000000000 < i ∧ i < 1000000000000) | _, .str x => PyData.strOk x | _, .pot => false | _, .dic _ kvs => kvs.isEmpty
  | n, .tup xs => match n with | 0 => false | m + 1 => fitXL m xs
  | n, .lst _ xs => match n with | 0 => false | m + 1 => fitXL m xs
def fitXL : Nat → List D → Bool
  | _, [] => true
  | n, d :: ds => fitX n d && fitXL n ds
end
theorem fitX_tup {n : Nat} {xs : List D} (h : fitX n (.tup xs) = true) : ∃ m, n = m + 1 ∧ fitXL m xs = true := by
  cases n with
  | zero => rw [fitX] at h; cases h
  | succ m => rw [fitX] at h; exact ⟨m, rfl, h⟩
theorem fitX_lst {n : Nat} {f : Fl} {xs : List D} (h : fitX n (.lst f xs) = true) : ∃ m, n = m + 1 ∧ fitXL m xs = true := by
  cases n with
  | zero => rw [fitX] at h; cases h
  | succ m => rw [fitX] at h; exact ⟨m, rfl, h⟩
theorem fitX_dic {n : Nat} {f : Fl} {xs : List (D × D)} (h : fitX n (.dic f xs) = true) : xs = [] := by
  rw [fitX] at h
  cases xs <;> first | rfl | cases h
theorem fitXL_cons {n : Nat} {d : D} {ds : List D} : fitXL n (d :: ds) = (fitX n d && fitXL n ds) := by rw [fitXL]
mutual
theorem fitX_ok : ∀ (d : D) (n : Nat), fitX n d = true → (toP d).showable = true ∧ (toP d).leavesShort 13 = true ∧ (toP d).weight ≤ costD d ∧ (toP d).depth ≤ n + 1 ∧ okS (toP d).shown := fun a n ha => by
  cases a with
  | pot => rw [fitX] at ha; cases ha
  | dic f kvs =>
    cases fitX_dic ha
    rw [toP, toPK, PyData.showable, PyData.leavesShort, PyData.weight, PyData.depth, costD, PyData.shown]
    exact ⟨rfl, rfl, by decide, by show _ ≤ n + 1; simp [PyData.depthKv], okS_of "{}"⟩
  | tup xs =>
    obtain ⟨m, rfl, h⟩ := fitX_tup ha
    obtain ⟨a, b, c, e, g⟩ := fitXL_ok xs m h
    rw [toP, PyData.showable, PyData.leavesShort, PyData.weight, PyData.depth, costD, PyData.shown]
    exact ⟨a, b, c, by omega, okS_append (okS_append (okS_of _) (okS_join (okS_of _) _ g)) (okS_of _)⟩
  | lst f xs =>
    obtain ⟨m, rfl, h⟩ := fitX_lst ha
    obtain ⟨a, b, c, e, g⟩ := fitXL_ok xs m h
    rw [toP, PyData.showable, PyData.leavesShort, PyData.weight, PyData.depth, costD, PyData.shown]
    exact ⟨a, b, c, by omega, okS_append (okS_textFrom _ _ _ (okS_of _) g) (okS_of _)⟩
  | str x =>
    rw [fitX] at ha
    have hx := okS_iff.mp ha
    rw [toP, PyData.showable, PyData.leavesShort, PyData.weight, PyData.depth, costD, PyData.shown]
    exact ⟨rfl, List.all_eq_true.mpr fun c hc => decide_eq_true (Nat.lt_trans (hx c hc) (by decide)), Nat.le_refl _, Nat.zero_le _, okS_reprText hx⟩
  | int i =>
    rw [fitX] at ha
    have h := of_decide_eq_true ha
    have l := log_short (short_int h)
    rw [toP, PyData.showable, PyData.leavesShort, PyData.weight, PyData.depth, costD]
    refine ⟨decide_eq_true (by omega), decide_eq_true ?_, ?_, Nat.zero_le _, okS_of _⟩
    · exact PyData.shown_int_le (by omega)
    · split <;> omega
  | non =>
    rw [toP, PyData.showable, PyData.leavesShort, PyData.weight, PyData.depth, costD]
    exact ⟨rfl, rfl, Nat.le_refl _, Nat.zero_le _, okS_of "None"⟩
  | bl b =>
    rw [toP, PyData.showable, PyData.leavesShort, PyData.weight, PyData.depth, costD]
    exact ⟨rfl, rfl, Nat.le_refl _, Nat.zero_le _, by cases b; exact okS_of "False"; exact okS_of "True"⟩
theorem fitXL_ok : ∀ (ds : List D) (n : Nat), fitXL n ds = true → PyData.showableAll (toPL ds) = true ∧ PyData.leavesShortAll 13 (toPL ds) = true ∧ PyData.weightAll (toPL ds) ≤ costL ds ∧ PyData.depthAll (toPL ds) ≤ n + 1 ∧ ∀ t ∈ PyData.shownAll (toPL ds), okS t
  | [], n, _ => by
    rw [toPL, PyData.showableAll, PyData.leavesShortAll, PyData.weightAll, PyData.depthAll, costL, PyData.shownAll]
    exact ⟨rfl, rfl, Nat.le_refl _, Nat.zero_le _, fun _ h => nomatch h⟩
  | d :: ds, n, h => by
    rw [fitXL_cons, Bool.and_eq_true] at h
    obtain ⟨a1, b1, c1, e1, g1⟩ := fitX_ok d n h.1
    obtain ⟨a2, b2, c2, e2, g2⟩ := fitXL_ok ds n h.2
    rw [toPL, PyData.showableAll, PyData.leavesShortAll, PyData.weightAll, PyData.depthAll, costL, PyData.shownAll, a1, b1, a2, b2]
    exact ⟨rfl, rfl, by omega, by omega, fun t ht => (List.mem_cons.mp ht).elim (fun e => by rw [e]; exact g1) (g2 t)⟩
end
def reprOkX (d : D) : Bool := fitX 60 d && decide (costD d ≤ 1048576)
theorem reprOkX_lay {d : D} (h : reprOkX d = true) : (toP d).showable = true ∧ (toP d).depth ≤ 61 ∧ (toP d).shown.length ≤ sizeLine ∧ PyData.strOk (reprS d) = true := by
  unfold reprOkX at h
  rw [Bool.and_eq_true, decide_eq_true_eq] at h
  obtain ⟨a, b, c, e, g⟩ := fitX_ok d 60 h.1
  exact ⟨a, e, PyData.shown_fits (B := 13) (by omega) (by omega) b (by omega), okS_iff.mpr g⟩
theorem RepL.dpx {K : PySem.W.Frag} {Z : Zs} {H : Hp} {m : Fl} {ds : List D} {vs : List V} {F : List Addr} (h : RepL K Z H m ds vs F) : ∀ n, fitXL n ds = true → DpXs K H vs (toPL ds) := by
  have dic : ∀ {p : Addr} {o : HO} {kvs : List (D × D)} {kws ws : List V}, kvs = [] → H p = some o → DObj p (kvs.map (·.1)) kws ws o → DpX K H (.ref p) (.dict []) := by
    intro p o kvs kws ws e e2 e3
    subst e
    generalize hk : List.map (fun x : D × D => x.1) [] = keys at e3
    cases e3 with
    | @x ks vs hl =>
      cases ks with
      | nil =>
        have e : ws = [] := List.eq_nil_of_length_eq_zero hl.symm
        subst e
        exact .dic ⟨e2, fun _ h => nomatch h⟩
      | cons _ _ => cases hk
  induction h with
  | nil => intro n _; rw [toPL]; exact .nil
  | @sc m d v ds vs F e _ ih =>
    intro n c
    rw [fitXL_cons, Bool.and_eq_true] at c
    rw [toPL]
    refine .cons ?_ (ih n c.2)
    cases d <;> simp [scV] at e <;> subst e
    · rw [toP]; exact .non
    · rw [toP]; exact .bl _
    · rw [toP]; exact .int _
    · rw [toP]; exact .str _
  | pot _ _ _ =>
    intro n c
    rw [fitXL_cons, Bool.and_eq_true, fitX] at c
    cases c.1
  | tup e _ _ ih1 ih2 =>
    intro n c
    rw [fitXL_cons, Bool.and_eq_true] at c
    obtain ⟨n', rfl, hc⟩ := fitX_tup c.1
    rw [toPL, toP]
    exact .cons (.tup e.sq (ih1 n' hc)) (ih2 _ c.2)
  | own _ e _ _ ih1 ih2 =>
    intro n c
    rw [fitXL_cons, Bool.and_eq_true] at c
    obtain ⟨n', rfl, hc⟩ := fitX_lst c.1
    rw [toPL, toP]
    exact .cons (.lst e (ih1 n' hc)) (ih2 _ c.2)
  | shr _ _ e _ _ ih1 ih2 =>
    intro n c
    rw [fitXL_cons, Bool.and_eq_true] at c
    obtain ⟨n', rfl, hc⟩ := fitX_lst c.1
    rw [toPL, toP]
    exact .cons (.lst e (ih1 n' hc)) (ih2 _ c.2)
  | down _ e1 e2 _ _ _ ih =>
    intro n c
    rw [fitXL_cons, Bool.and_eq_true] at c
    have e := fitX_dic c.1
    rw [toPL, toP, e, toPK]
    exact .cons (dic e e1 e2) (ih _ c.2)
  | dshr _ _ e1 e2 _ _ _ ih =>
    intro n c
    rw [fitXL_cons, Bool.and_eq_true] at c
    have e := fitX_dic c.1
    rw [toPL, toP, e, toPK]
    exact .cons (dic e e1 e2) (ih _ c.2)
section
variable {K : PySem.W.Frag} {G : Gh} {X : Cx}
theorem Tmp.dpx {Z : Addr → Prop} {H : Hp} {d : D} {v : V} {F : List Addr} (t : Tmp K G Z H d v F) {n : Nat} (h : fitX n d = true) : DpX K H v (toP d) := by
  have q := t.t.dpx n (by rw [fitXL_cons, h, fitXL]; rfl)
  rw [toPL, toPL] at q
  cases q with
  | cons a _ => exact a
def D.reprZ : D → T D
  | .non => .ret (.str "None")
  | .bl b => .ret (.str (if b then "True" else "False"))
  | .int i => if -1000000000000 < i ∧ i < 1000000000000 then .ret (.str (toString i)) else .fail
  | .str x => if (reprText x).length ≤ 1000000 then .ret (.str (reprText x)) else .fail
  | .dic f [] => .ret (.str "{}")
  | .tup xs => if reprOkX (.tup xs) = true then .ret (.str (reprS (.tup xs))) else .fail
  | .lst f xs => if reprOkX (.lst f xs) = true then .ret (.str (reprS (.lst f xs))) else .fail
  | _ => .fail
def rReprZ (K : PySem.W.Frag) : V → Hp → VK → Prop := fun x H Q => ∃ a d, x = .ref a ∧ DpX K H x d ∧ d.showable = true ∧ d.depth ≤ 61 ∧ d.shown.length ≤ sizeLine ∧ Q (.str d.shown) H
theorem cr_reprZ (hg : X.A.guards = some []) (hu : X.A.units + 65 < cLine) : CallR X (.builtin "repr") fun vs H Q => ∃ v, vs = [v] ∧ (rReprZ X.K v H Q ∨ rReprX X.K v H Q) := by
  intro pins s σ H xs us Q I r h
  obtain ⟨v, rfl, h | h⟩ := h
  · obtain ⟨a, d, rfl, hd, hs, hz, hl, q⟩ := h
    obtain ⟨u, rfl, ru⟩ := vals1 r
    obtain rfl : u = Value.ref a := ru
    obtain ⟨as, r1⟩ := DpX.reads I d (.ref a) (.ref a) hd rfl
    exact reprZ_call r1 hs hl hg (by omega) fun h' u tk hk => ⟨.str d.shown, H, I.kept hk, ⟨_, rfl⟩, q⟩
  · exact cr_reprX hg hu pins s σ H [v] us Q I r ⟨v, rfl, .inr h⟩
theorem o_reprZ : Op1 K G (fun x H Q => rReprZ K x H Q ∨ rReprX K x H Q) D.reprZ := by
  intro Z H d1 v1 F1 Q t1 p h
  have seq : ∀ d : D, Tmp K G Z H d v1 F1 → isSeqD d = true → reprOkX d = true → Q (.str (reprS d)) H → rReprZ K v1 H Q := by
    intro d t1 hs c h
    obtain ⟨b, e, g, k⟩ := reprOkX_lay c
    have hv : ∃ pa, v1 = .ref pa := by
      cases d <;> simp [isSeqD] at hs
      · obtain ⟨pa, _, e1, _⟩ := tup_val t1
        exact ⟨pa, e1⟩
      · obtain ⟨pa, _, _, e1, _⟩ := lst_val t1
        exact ⟨pa, e1⟩
    obtain ⟨pa, rfl⟩ := hv
    unfold reprOkX at c
    rw [Bool.and_eq_true] at c
    exact ⟨pa, toP d, rfl, t1.dpx c.1, b, e, g, h⟩
  cases d1 with
  | tup xs =>
    obtain ⟨c, h⟩ := ite_holds h
    exact .inl (seq _ t1 rfl c (h Z _ H [] (.sc p rfl)))
  | lst f xs =>
    obtain ⟨c, h⟩ := ite_holds h
    exact .inl (seq _ t1 rfl c (h Z _ H [] (.sc p rfl)))
  | pot => exact h.elim
  | non => exact (o_reprX Z H _ v1 F1 Q t1 p h).elim (fun ⟨a, d, e, hd, _⟩ => by subst e; exact absurd (non_val t1) (by simp)) .inr
  | bl b => exact (o_reprX Z H _ v1 F1 Q t1 p h).elim (fun ⟨a, d, e, hd, _⟩ => by subst e; exact absurd (bl_val t1) (by simp)) .inr
  | int i => exact (o_reprX Z H _ v1 F1 Q t1 p h).elim (fun ⟨a, d, e, hd, _⟩ => by subst e; exact absurd (int_val t1) (by simp)) .inr
  | str y => exact (o_reprX Z H _ v1 F1 Q t1 p h).elim (fun ⟨a, d, e, hd, _⟩ => by subst e; exact absurd (str_val t1) (by simp)) .inr
  | dic f kvs =>
    cases kvs with
    | nil =>
      obtain ⟨q, ks, ws, F', e1, hk, hl, hd, _⟩ := dic_read (Fin := []) t1
      have e2 : ks = [] := by cases ks <;> first | rfl | cases hk
      subst e2
      have e3 : ws = [] := by cases ws <;> first | rfl | cases hl
      subst e3
      exact .inr (.inr (.inr (.inr (.inr ⟨q, e1, hd, h Z _ H [] (.sc p rfl)⟩))))
    | cons _ _ => exact h.elim
end
theorem reprZ_ok {a : D} (hs : isSeqD a = true) (ha : reprOkX a = true) : D.reprZ a = .ret (.str (reprS a)) := by
  cases a <;> first | exact if_pos ha | cases hs
theorem ne_reprZ {a b : D} (ha : reprOkX a = true) (hb : reprOkX b = true) (e : toP a = toP b) : D.ne (.str (reprS a)) (.str (reprS b)) = .ret (.bl false) := by
  rw [ne_str (reprOkX_lay ha).2.2.2 (reprOkX_lay hb).2.2.2]
  unfold reprS
  rw [e, beq_self_eq_true]
  rfl
end Dn

set_option Elab.async false
set_option linter.all false
set_option maxRecDepth 100000
set_option maxHeartbeats 4000000
namespace Dn
open PySem PySem.Spec PyProof.Rows L2
/-! ## t * 0, t * 1 -/
theorem tuple_mul1 (l : Addr) (items : Array Value) (n : Nat) (dd : Option Addr) (sl : Array (Option Value)) (u : Tok) (c1 : items.isEmpty = false) :
    Meets (Builtin.«tuple.__mul__» ⟨[.ref l, .int 1 u], []⟩) (fun _ R s => s.heap.get? l = some { cls := .type "tuple", dict := dd, data := .seq items n, slots := sl } ∧ R (.ok (.ret (Value.ref l))) s) :=
  .of_wp fun prog w A R s h => by
    obtain ⟨hp, g, d, tk, os⟩ := s
    obtain ⟨hl, h⟩ := h
    have f1 := AutoSeq1.idx_int
    wp_walk using wpAny_loadPart' hl
    all_goals exact ⟨_, rfl, h⟩
theorem tuple_mul0 (l : Addr) (items : Array Value) (n : Nat) (dd : Option Addr) (sl : Array (Option Value)) (u : Tok) (c1 : items.isEmpty = false) :
    Meets (Builtin.«tuple.__mul__» ⟨[.ref l, .int 0 u], []⟩) (fun _ R s => s.heap.get? l = some { cls := .type "tuple", dict := dd, data := .seq items n, slots := sl } ∧
      R (.ok (.ret (Value.ref s.heap.objs.size))) { s with heap := s.heap.push { cls := Value.type "tuple", data := Data.seq #[] }, toks := s.toks }) :=
  .of_wp fun prog w A R s h => by
    obtain ⟨hp, g, d, tk, os⟩ := s
    obtain ⟨hl, h⟩ := h
    have f1 := AutoSeq1.idx_int
    have c2 : (items.isEmpty || ((0 : Int) == 1)) = false := by rw [c1]; rfl
    wp_walk using wpAny_loadPart' hl
    repeat (first
      | (refine wpAny_ite_false (decide_eq_false (by rw [c2]; exact Bool.false_ne_true)) ?_; wp_walk using wpAny_loadPart' hl)
      | (refine wpAny_ite_false (decide_eq_false (by rw [c1]; exact Bool.false_ne_true)) ?_; wp_walk using wpAny_loadPart' hl))
    all_goals exact ⟨_, rfl, h⟩
section
variable {K : PySem.W.Frag} {G : Gh} {X : Cx}
def rRep01 (K : PySem.W.Frag) : R2 := fun x y H Q => ∃ l k xs, x = .ref l ∧ y = .int k ∧ SqT K H l xs ∧ xs ≠ [] ∧ ((k = 1 ∧ Q (.ref l) H) ∨ (k = 0 ∧ MkT H [] Q))
theorem op_rep01 : OpR X (binaryOp .Mult) (rRep01 X.K) := by
  intro pins st σ H x y v u Q I rx ry h
  obtain ⟨l, k, xs, rfl, rfl, hT, hne, h⟩ := h
  cases rx
  obtain ⟨t, rfl⟩ := ry
  obtain ⟨its, rr, ⟨⟨cls, dd, data, sl⟩, ho, hc, n, hd⟩, _⟩ := I.tuple hT
  simp only at hc hd
  subst hc hd
  have hle : its.length = xs.length := rr.length.symm
  have hi : its.toArray.isEmpty = false := by
    cases its with
    | nil => exact absurd (List.eq_nil_of_length_eq_zero hle.symm) hne
    | cons _ _ => rfl
  rcases h with ⟨rfl, q⟩ | ⟨rfl, q⟩
  · exact wpAny_binaryOp_repeat_ref (T := "tuple") (U := "int") (by decide) ⟨_, ho, rfl⟩ (fun s' => typeIs_int s' _ t) noFill_tuple_mul F.fills_int_mul F.slot_int_rmul repeat_tuple F.slot_int_index.lookup
      (call_meets F.slot_int_rmul (typeIs_int st _ t) F.entry_int_rmul (F.args_int_rmul_2 _ _) (int_rmul_tuple _ t l its.toArray n dd sl) ⟨ho, rfl, ⟨_, ho, rfl⟩, call_meets F.slot_tuple_mul ⟨_, ho, rfl⟩ F.entry_tuple_mul (F.args_tuple_mul_2 _ _) (tuple_mul1 l its.toArray n dd sl t hi) ⟨ho, .ref l, H, I, rfl, q⟩⟩)
  · exact wpAny_binaryOp_repeat_ref (T := "tuple") (U := "int") (by decide) ⟨_, ho, rfl⟩ (fun s' => typeIs_int s' _ t) noFill_tuple_mul F.fills_int_mul F.slot_int_rmul repeat_tuple F.slot_int_index.lookup
      (call_meets F.slot_int_rmul (typeIs_int st _ t) F.entry_int_rmul (F.args_int_rmul_2 _ _) (int_rmul_tuple _ t l its.toArray n dd sl) ⟨ho, rfl, ⟨_, ho, rfl⟩, call_meets F.slot_tuple_mul ⟨_, ho, rfl⟩ F.entry_tuple_mul (F.args_tuple_mul_2 _ _) (tuple_mul0 l its.toArray n dd sl t hi) ⟨ho, mkT0 (its := []) (xs := []) I .nil (Nat.zero_le _) q⟩⟩)
def D.mulT : D → D → T D
  | .tup xs, .int k => if xs ≠ [] ∧ k = 1 then .ret (.tup xs) else if xs ≠ [] ∧ k = 0 then .ret (.tup []) else D.mul (.tup xs) (.int k)
  | a, b => D.mulX a b
def rMul5 (K : PySem.W.Frag) : R2 := fun x y H Q => rMul4 K x y H Q ∨ rRep01 K x y H Q
theorem op_mul5 : OpR X (binaryOp .Mult) (rMul5 X.K) := op_mul4.or op_rep01
theorem o_mulT : Op2 K G (rMul5 K) D.mulT := by
  intro Z H d1 v1 F1 d2 v2 F2 Q t1 t2 p h
  have old : (D.mulX d1 d2).Holds _ → rMul5 K v1 v2 H Q := fun h => .inl (o_mulX Z H d1 v1 F1 d2 v2 F2 Q t1 t2 p h)
  cases d1 with
  | tup xs =>
    cases d2 with
    | int k =>
      have h : (if xs ≠ [] ∧ k = 1 then T.ret (D.tup xs) else if xs ≠ [] ∧ k = 0 then .ret (.tup []) else D.mul (.tup xs) (.int k)).Holds _ := h
      obtain ⟨pa, ws, e1, s1, r1, _⟩ := tup_val t1
      have l1 := r1.len
      have ne : xs ≠ [] → ws ≠ [] := fun h e => by
        rw [e] at l1
        exact h (List.eq_nil_of_length_eq_zero l1)
      by_cases c1 : xs ≠ [] ∧ k = 1
      · rw [if_pos c1] at h
        have hv := h Z _ H [] (.tupS p r1 s1)
        exact .inr ⟨pa, k, ws, e1, int_val t2, s1.sq, ne c1.1, .inl ⟨c1.2, hv⟩⟩
      · rw [if_neg c1] at h
        by_cases c2 : xs ≠ [] ∧ k = 0
        · rw [if_pos c2] at h
          exact .inr ⟨pa, k, ws, e1, int_val t2, s1.sq, ne c2.1, .inr ⟨c2.2, fun q o ho n => h Z _ _ [] (.tup0 p .nil ho n)⟩⟩
        · rw [if_neg c2] at h
          exact old h
    | _ => exact old h
  | _ => exact old h
end
end Dn

set_option Elab.async false
set_option linter.all false
set_option maxRecDepth 100000
set_option maxHeartbeats 600000
namespace Dn
open PySem PySem.Spec PyProof.Rows L2 PySem.W
/-! ## min(x) of a list of tuples of whole numbers -/
def tuP (ns : List Int) : PyData := .tuple (ns.map .int)
theorem alike_ints : ∀ xs ys : List Int, alikeAll (xs.map PyData.int) (ys.map .int) = true
  | [], _ => by simp [alikeAll]
  | _ :: _, [] => by simp [alikeAll]
  | x :: xs, y :: ys => by
    rw [List.map_cons, List.map_cons, alikeAll, alike, alike_ints xs ys]; rfl
theorem alike_tu (xs ys : List Int) : alike (tuP xs) (tuP ys) = true := by
  unfold tuP
  rw [alike, alike_ints]
theorem alikeAll_tus (nss : List (List Int)) : AlikeAll (nss.map tuP) := by
  refine ⟨fun x hx y hy => ?_, fun x hx => ?_⟩
  · obtain ⟨a, _, rfl⟩ := List.mem_map.mp hx
    obtain ⟨b, _, rfl⟩ := List.mem_map.mp hy
    exact alike_tu a b
  · obtain ⟨a, _, rfl⟩ := List.mem_map.mp hx
    exact fun h => by cases h
theorem depth_ints : ∀ xs : List Int, PyData.depthAll (xs.map PyData.int) = 0
  | [] => by simp [PyData.depthAll]
  | x :: xs => by rw [List.map_cons, PyData.depthAll, depth_ints xs, PyData.depth]; rfl
theorem depth_tus : ∀ nss : List (List Int), PyData.depthAll (nss.map tuP) ≤ 1
  | [] => by simp [PyData.depthAll]
  | x :: xs => by
    have := depth_tus xs
    rw [List.map_cons, PyData.depthAll]
    have : (tuP x).depth = 1 := by unfold tuP; rw [PyData.depth, depth_ints]
    omega
theorem tuP_inj {a b : List Int} (h : tuP a = tuP b) : a = b := by
  unfold tuP at h
  injection h with h
  exact List.map_inj_right (fun x y e => by injection e) |>.mp h
section
variable {K : PySem.W.Frag} {G : Gh} {X : Cx}
def rMinT (K : PySem.W.Frag) : List V → Hp → VK → Prop := fun vs H Q => ∃ (l : Addr) (ks : List (Addr × List Int)) (x : List Int) (xs : List (List Int)), vs = [.ref l] ∧ SqL K H l (ks.map fun p => V.ref p.1) ∧ (∀ p ∈ ks, SqT K H p.1 (p.2.map V.int)) ∧ ks.map (·.2) = x :: xs ∧
  ∀ p ∈ ks, minD (tuP x) (xs.map tuP) = tuP p.2 → Q (.ref p.1) H
theorem dp_tu {K : PySem.W.Frag} {H : Hp} {p : Addr × List Int} (h : SqT K H p.1 (p.2.map V.int)) : Dp K H (.ref p.1) (tuP p.2) := by
  refine .tup h ?_
  generalize p.2 = ns
  clear h
  induction ns with
  | nil => exact .nil
  | cons n ns ih => exact .cons (.int n) ih
theorem dps_tu {K : PySem.W.Frag} {H : Hp} : ∀ {ks : List (Addr × List Int)}, (∀ p ∈ ks, SqT K H p.1 (p.2.map V.int)) → DpAll K H (ks.map fun p => V.ref p.1) (ks.map fun p => tuP p.2)
  | [], _ => .nil
  | k :: ks, h => .cons (dp_tu (h k List.mem_cons_self)) (dps_tu fun p hp => h p (List.mem_cons_of_mem _ hp))
theorem cr_minT (hc : X.calm = true) (hu : X.A.units + 10 < cLine) : CallR X (.builtin "min") (rMinT X.K) := by
  intro pins s σ H vs us Q I r h
  obtain ⟨l, ks, x, xs, rfl, hs, hk, e, q⟩ := h
  obtain ⟨its, rv, hl, hz⟩ := I.list hs
  rw [Vals.ref1 r]
  obtain ⟨as, hr⟩ := Dp.readsAll I (ks.map fun p => tuP p.2) _ its (dps_tu hk) rv
  have e2 : (ks.map fun p => tuP p.2) = tuP x :: xs.map tuP := by
    have := congrArg (List.map tuP) e
    rw [List.map_map] at this
    exact this
  rw [e2] at hr
  have ha : AlikeAll (tuP x :: xs.map tuP) := alikeAll_tus (x :: xs)
  have hd : PyData.depthAll (tuP x :: xs.map tuP) ≤ 1 := depth_tus (x :: xs)
  refine min_list_data (I.ok.hd hc) hl.isList (by simpa using hr) ha (by omega) fun i v h' tk bs hv hrd hkp => ?_
  have hv2 : its[i]? = some v := by simpa using hv
  have hi : i < its.length := (List.getElem?_eq_some_iff.mp hv2).1
  have hlen := rv.length
  rw [List.length_map] at hlen
  have hik : i < ks.length := by omega
  have hmem := List.getElem_mem hik
  obtain ⟨u, hu1, hu2⟩ := rv.get (i := i) (x := .ref ks[i].1) (by rw [List.getElem?_map, List.getElem?_eq_getElem hik]; rfl)
  rw [hv2] at hu1
  cases hu1
  obtain ⟨cs, hrk⟩ := Dp.reads I (tuP ks[i].2) (.ref ks[i].1) v (dp_tu (hk _ hmem)) hu2
  have hdet := (PyProof.Rows.reads_det (fun _ _ e _ => e) (reads_keeps hkp hrk) hrd).1
  exact ⟨_, H, I.kept hkp, hu2, q _ hmem hdet⟩
def minTI (x : List Int) (xs : List (List Int)) : List Int := xs.foldl (fun a y => if dataLt (tuP y) (tuP a) = true then y else a) x
theorem minTI_eq : ∀ (xs : List (List Int)) (x : List Int), minD (tuP x) (xs.map tuP) = tuP (minTI x xs)
  | [], x => rfl
  | y :: xs, x => by
    have ih := minTI_eq xs (if dataLt (tuP y) (tuP x) = true then y else x)
    unfold minD minTI at *
    rw [List.map_cons, List.foldl_cons, List.foldl_cons, ← ih]
    congr 1
    split <;> rfl
theorem minTI_mem : ∀ (xs : List (List Int)) (x : List Int), minTI x xs ∈ x :: xs
  | [], x => List.mem_singleton.mpr rfl
  | y :: xs, x => by
    have ih := minTI_mem xs (if dataLt (tuP y) (tuP x) = true then y else x)
    unfold minTI at *
    rw [List.foldl_cons]
    rcases List.mem_cons.mp ih with e | e
    · rw [e]
      split
      · exact List.mem_cons_of_mem _ List.mem_cons_self
      · exact List.mem_cons_self
    · exact List.mem_cons_of_mem _ (List.mem_cons_of_mem _ e)
def D.minT : D → T D
  | .lst _ xs => (T.ofO (tisOf xs)).bind fun nss => match nss with
    | [] => .fail
    | x :: nss => .ret (.tup ((minTI x nss).map .int))
  | _ => .fail
theorem rep_tint {Z : Zs} {H : Hp} {m : Fl} : ∀ ns : List Int, RepL K Z H m (ns.map D.int) (ns.map V.int) []
  | [] => .nil
  | _ :: ns => .sc rfl (rep_tint ns)
theorem o_minT : Op1 K G (fun x H Q => rMinT K [x] H Q) D.minT := by
  intro Z H d1 v1 F1 Q t1 p h
  cases d1 <;> first | exact h.elim | skip
  obtain ⟨pa, ws, e1, s1, b1⟩ := lst_bor t1 (fun z hz => (p.own z hz).2) p.zf
  obtain ⟨nss, en, hh⟩ := mat_o h
  clear h
  have ex := tisOf_eq en
  subst ex
  obtain ⟨zs, ew, ez, ht⟩ := ti_rep b1
  subst ew
  cases nss with
  | nil => exact hh.elim
  | cons x nss =>
    subst e1
    refine ⟨pa, zs, x, nss, rfl, .of s1, fun q hq => (ht q hq).sq, ez.symm, fun q hq e => ?_⟩
    rw [minTI_eq] at e
    have e2 := tuP_inj e
    have hh : (T.ret (D.tup ((minTI x nss).map .int))).Holds _ := hh
    rw [e2] at hh
    exact hh Z _ H [] (.tupS p (rep_tint q.2) (ht q hq))
theorem cr_minT1 (hc : X.calm = true) (hu : X.A.units + 10 < cLine) : CallR X (.builtin "min") fun vs H Q => ∃ v, vs = [v] ∧ rMinT X.K [v] H Q := by
  intro pins s σ H xs us Q I r h
  obtain ⟨v, rfl, h⟩ := h
  exact cr_minT hc hu pins s σ H [v] us Q I r h
end
end Dn

set_option Elab.async false
set_option linter.all false
set_option maxRecDepth 100000
set_option maxHeartbeats 1000000
namespace Dn
open PySem PySem.Spec PyProof.Rows L2
/-! ## sorted(set(x)), x a list of tuples of whole numbers of any lengths -/
def rSortedTO (K : PySem.W.Frag) (P : Program) (w : World) : List V → Hp → VK → Prop := fun vs H Q => ∃ (a : Addr) (L : List (Addr × List Int)), vs = [V.ref a] ∧ H a = some (SetTO P w a L) ∧ (∀ p ∈ L, SqT K H p.1 (p.2.map V.int)) ∧
  ∀ (L' : List (Addr × List Int)) (p : Addr), L'.Perm L → (L'.map (·.2)).Nodup → L'.length < 64 → L'.Pairwise (fun q r => HT.lexLt r.2 q.2 = false) → H p = none → Q (.ref p) (upd H p (.lst (L'.map fun q => V.ref q.1)))
theorem refs_of (L : List (Addr × List Int)) : ∀ {vs : List Value}, (∀ v ∈ vs, ∃ q ∈ L, v = Value.ref q.1) → ∃ L1 : List (Addr × List Int), vs = L1.map (fun q => Value.ref q.1) ∧ ∀ q ∈ L1, q ∈ L
  | [], _ => ⟨[], rfl, fun _ h => nomatch h⟩
  | v :: vs, h => by
    obtain ⟨q, hq, e⟩ := h v List.mem_cons_self
    obtain ⟨L1, e1, hs⟩ := refs_of L fun u hu => h u (List.mem_cons_of_mem _ hu)
    exact ⟨q :: L1, by rw [List.map_cons, e, e1], fun r hr => (List.mem_cons.mp hr).elim (fun z => by rw [z]; exact hq) (hs r)⟩
theorem cr_sortedTO {X : Cx} (hc : X.calm = true) (hu : X.A.units + 10 < cLine) : CallR X (.builtin "sorted") (rSortedTO X.K X.prog X.w) := by
  intro pins st σ H xs us Q I r h
  obtain ⟨a, L, rfl, ha, hk, q⟩ := h
  have R0 : SetT0 X.prog X.w st.heap a L := (I.hok a _ ha).1
  obtain ⟨es, ep, t, R⟩ := R0.full fun p hp => I.isT (hk p hp)
  rw [Vals.ref1 r]
  obtain ⟨o, ho, hex, hd⟩ := R.ob
  have hsz := R.size
  have hfew := R.few
  have one : ∀ q ∈ L, ∀ r ∈ L, q.1 = r.1 → q = r := fun q hq r hr e => by
    have a1 := R.tup q hq
    have a2 := R.tup r hr
    rw [e] at a1
    exact Prod.ext e (a1.inj a2)
  let k : Value → List Int := fun v => ((L.find? fun p => decide (Value.ref p.1 = v)).map (·.2)).getD []
  have hkk : ∀ p ∈ L, k (.ref p.1) = p.2 := by
    intro p hp
    show ((L.find? fun r => decide (Value.ref r.1 = Value.ref p.1)).map (·.2)).getD [] = p.2
    cases e : L.find? fun r => decide (Value.ref r.1 = Value.ref p.1) with
    | none =>
      have := List.find?_eq_none.mp e p hp
      simp at this
    | some r =>
      have h1 := List.find?_some e
      have h2 := List.mem_of_find?_eq_some e
      have h3 : r.1 = p.1 := by simpa using h1
      show r.2 = p.2
      rw [one r h2 p hp h3]
  have hT : ∀ p ∈ L, TI st.heap (.ref p.1) p.2 := by
    intro p hp
    obtain ⟨itz, rz, ⟨o, e, c, n, d⟩, _⟩ := I.tuple (hk p hp)
    exact ⟨p.1, o, itz, n, rfl, e, c, d, by simpa using L2.intsAre_of rz⟩
  refine Calls.call_function_entry kind_sorted plain_sorted entry_sorted (args_sorted1 _) ?_
  unfold Builtin.«sorted»
  refine wpAny_bind (m := checkCount "sorted" 1 1 _) (wpAny_pure ?_)
  refine wpAny_bind (collect_set (A := X.A.in1) (I.ok.hd hc) ⟨o, ho, hex.1, hd⟩ R.fits (by unfold scanBound; omega) R.tab.ris R.led fun s1 vs k1 hz g1 o1 pm => ?_)
  have hes : es.toList.map (·.2) = L.map fun q => Value.ref q.1 := by
    rw [R.rows]
    unfold rowsOf
    rw [List.map_map] <;> rfl
  rw [hes] at pm
  have hvl : vs.length < 64 := by rw [pm.length_eq, List.length_map]; exact hfew
  refine wpAny_bind (wpAny_newList ?_ (by rw [sizeLine_eq]; omega))
  have hoL : (s1.heap.push (seqObj "list" vs.toArray 0)).get? s1.heap.objs.size = some (seqObj "list" vs.toArray 0) := Heap.get?_push_size _ rfl
  have hmem : ∀ v ∈ vs, ∃ q ∈ L, v = Value.ref q.1 := fun v hv => by
    obtain ⟨q, hq, e⟩ := List.mem_map.mp (pm.mem_iff.mp hv)
    exact ⟨q, hq, e.symm⟩
  have hTv : ∀ v ∈ vs, TI (s1.heap.push (seqObj "list" vs.toArray 0)) v (k v) := by
    intro v hv
    obtain ⟨q, hq, rfl⟩ := hmem v hv
    rw [hkk q hq]
    exact (hT q hq).keeps fun b o e _ => Heap.get?_push_of_some _ (k1 b o e)
  refine wpAny_bind (wpAny_holding (wpAny_call_entry slot_list_sort ⟨_, hoL, rfl⟩ entry_list_sort (SrtO.list_sort_ord (s := { s1 with heap := s1.heap.push (seqObj "list" vs.toArray 0) }) (swo_tups k) hoL (by rw [sizeLine_eq]; omega)
    (fun h2 => ti_sortable (by show X.A.units + 1 + 1 + 1 < _; omega) h2 hTv fun o e c => by
      have e' : some o = some (seqObj "list" vs.toArray 0) := e.symm.trans hoL
      cases e'
      exact absurd (Value.type.inj c) (by decide)) fun out a1 a2 => ⟨_, rfl, ?_⟩) (args_list_sort _)))
  have hout : ∀ v ∈ out, ∃ q ∈ L, v = Value.ref q.1 := fun v hv => hmem v (a2.perm.mem_iff.mp hv)
  obtain ⟨c, hcc⟩ := sortedHeap_at (vs := vs) (out := out.toArray) hoL
  obtain ⟨L', e', hs'⟩ := refs_of L hout
  have pL : L'.Perm L := by
    have p1 : (L'.map fun q => Value.ref q.1).Perm (L.map fun q => Value.ref q.1) := by rw [← e']; exact a2.perm.trans pm
    have nL : L.Nodup := nodup_of_map R.nd
    have nref : (L.map fun q => Value.ref q.1).Nodup := by
      refine List.pairwise_map.mpr (List.Pairwise.imp_of_mem (fun {q r} hq hr hne e => ?_) nL)
      injection e with e
      exact hne (one q hq r hr e)
    have n1 : L'.Nodup := nodup_of_map (p1.nodup_iff.mpr nref)
    refine (List.perm_ext_iff_of_nodup n1 nL).mpr fun q => ⟨hs' q, fun hq => ?_⟩
    obtain ⟨r, hr, e⟩ := List.mem_map.mp (p1.mem_iff.mpr (List.mem_map.mpr ⟨q, hq, rfl⟩))
    injection e with e
    rw [← one r (hs' r hr) q hq e]
    exact hr
  have pw : L'.Pairwise (fun q r => HT.lexLt r.2 q.2 = false) := by
    have a1 : List.Pairwise _ out := a1
    rw [e'] at a1
    refine List.Pairwise.imp_of_mem (fun {q r} hq hr hle => ?_) (List.pairwise_map.mp a1)
    have : HT.lexLt (k (.ref r.1)) (k (.ref q.1)) = false := hle
    rw [hkk r (hs' r hr), hkk q (hs' q hq)] at this
    exact this
  have hn : H s1.heap.objs.size = none := I.hok.fresh hz
  have hlen : (L'.map fun q => V.ref q.1).length ≤ sizeLine := by rw [List.length_map, sizeLine_eq, pL.length_eq]; omega
  have hv : Vals (L'.map fun q => V.ref q.1) out := by rw [e']; exact vals_of_refs L'
  have kp : ∀ b u, st.heap.get? b = some u → (sortedHeap (s1.heap.push (seqObj "list" vs.toArray 0)) s1.heap.objs.size vs out.toArray).get? b = some u := by
    intro b u e
    have q := k1 b u e
    have hlt := Heap.lt_size q
    rw [sortedHeap_old (Nat.ne_of_lt hlt) (by rw [size_push']; exact Nat.lt_succ_of_lt hlt)]
    exact Heap.get?_push_of_some _ q
  have J : Inv X pins σ (upd H s1.heap.objs.size (.lst (L'.map fun q => V.ref q.1))) { st with heap := sortedHeap (s1.heap.push (seqObj "list" vs.toArray 0)) s1.heap.objs.size vs out.toArray, gens := s1.gens, drawn := s1.drawn, toks := s1.toks } :=
    I.call (ch := []) (Un.laid kp hz hn) (I.hok.laid kp hz ⟨hlen, out, c, hv, hcc⟩) (by rw [g1]; exact I.bare) (fun _ z => nomatch z)
  have e : ({ s1 with heap := sortedHeap (s1.heap.push (seqObj "list" vs.toArray 0)) s1.heap.objs.size vs out.toArray } : Shared) = { st with heap := sortedHeap (s1.heap.push (seqObj "list" vs.toArray 0)) s1.heap.objs.size vs out.toArray, gens := s1.gens, drawn := s1.drawn, toks := s1.toks } := by
    cases s1
    cases st
    cases o1
    rfl
  refine wpAny_pure ⟨_, rfl, ?_⟩
  rw [e]
  exact ⟨.ref _, _, J, rfl, q L' _ pL ((pL.map (·.2)).nodup_iff.mpr R.nd) (by rw [pL.length_eq]; exact hfew) pw hn⟩
def D.sortSetO : D → T D
  | .lst _ xs => (T.ofO (tisOf xs)).bind fun nss => if nss.length < 64 then .ret (.lst .own ((isort HT.lexLt (ddL nss)).map tiD)) else .fail
  | _ => .fail
section
variable {K : PySem.W.Frag} {G : Gh} {X : Cx}
def rSortSetO (K : PySem.W.Frag) (P : Program) (w : World) : V → Hp → VK → Prop := fun x H Q => rSetOfT K P w [x] H fun y H1 => rSortedTO K P w [y] H1 Q
theorem o_sortSetO {P : Program} {w : World} : Op1 K G (rSortSetO K P w) D.sortSetO := by
  intro Z H d1 v1 F1 Q t1 p h
  cases d1 <;> first | exact h.elim | skip
  rename_i f xs
  obtain ⟨nss, en, hh⟩ := mat_o h
  clear h
  obtain ⟨c1, hh⟩ := ite_holds hh
  obtain ⟨pa, ws, e1, s1, b1⟩ := lst_bor t1 (fun z hz => (p.own z hz).2) p.zf
  have ex := tisOf_eq en
  subst ex
  obtain ⟨zs, ew, ez, ht⟩ := ti_rep b1
  subst ew
  refine ⟨pa, zs, by rw [e1], .of s1, fun q hq => (ht q hq).sq, by rw [ez, List.length_map] at c1; exact c1, fun a L na hL hk => ?_⟩
  have g := Go.new (o := SetTO P w a L) p.pot p.zf na
  refine ⟨a, L, rfl, upd_same, fun q hq => (g.sqt (ht q (hL q hq))).sq, fun L' q hp hn hl hs n => ?_⟩
  have inL : ∀ r ∈ L', r ∈ zs := fun r hr => hL r (hp.mem_iff.mp hr)
  have es : L'.map (·.2) = isort HT.lexLt (ddL nss) := by
    refine srt_uniq anti_lex (List.pairwise_map.mpr ?_) (isort_srtd swo_lexL _) ?_
    · exact hs.imp fun h => h
    · refine (perm_same hn (ddL_nodup nss) fun k => ?_).trans (isort_perm _).symm
      rw [ddL_mem, ez]
      constructor
      · intro hk'
        obtain ⟨r, hr, rfl⟩ := List.mem_map.mp hk'
        exact List.mem_map_of_mem (inL r hr)
      · intro hk'
        obtain ⟨r, hr, rfl⟩ := List.mem_map.mp hk'
        obtain ⟨r', hr', e⟩ := List.mem_map.mp (hk r hr)
        rw [← e]
        exact List.mem_map_of_mem (hp.mem_iff.mpr hr')
  have r := rep_ti (K := K) (Z := G.zs Z) (H := upd H a (SetTO P w a L)) (m := .own) L' fun q hq => g.sqt (ht q (inL q hq))
  have e2 : (L'.map fun q => tiD q.2) = (isort HT.lexLt (ddL nss)).map tiD := by rw [← es, List.map_map]; rfl
  rw [e2] at r
  have pr : Pre K G Z (upd H a (SetTO P w a L)) F1 := ⟨g.potB, g.zB, p.own, p.nd, p.gr.trans g.grow⟩
  have o := OpOut.lst pr r (List.nil_sublist _) n
  refine hh Z _ _ _ ⟨g.grow.trans o.grow, o.potB, o.zle, fun b z => (o.znew b z).imp id fun h => h.imp (fun h => g.grow.back (o.zB b z).2 h) id, o.zB, o.tmp, fun b hb => ⟨(o.own b hb).1.imp (fun h => g.grow.back (o.own b hb).2.2 h) id, (o.own b hb).2⟩, o.nd⟩
theorem ee_sortSetO {e : Expr} {de : Env → T D} {p p2 pos pos2 : Pos} (hc : X.calm = true) (hu : X.A.units + 64 < cLine) (hu10 : X.A.units + 10 < cLine) (hg : Gl X "sorted") (hm : X.mg "sorted" = none) (hg2 : Gl X "set") (hm2 : X.mg "set" = none) (he : PE X e (RdE X.K G de))
    (hs : starEach [e] X.env = (false, eval e X.env) :: starEach [] X.env := by rfl) (hs2 : starEach [.Call (.Name "set" p2) [e] [] pos2] X.env = (false, eval (.Call (.Name "set" p2) [e] [] pos2) X.env) :: starEach [] X.env := by rfl)
    (hpl : (backTo pos2 (starEach [] X.env)).any (·.1) = false := by rfl) (hpl2 : (backTo pos (starEach [] X.env)).any (·.1) = false := by rfl) :
    PE X (.Call (.Name "sorted" p) [.Call (.Name "set" p2) [e] [] pos2] [] pos) (RdE X.K G (un1 D.sortSetO de)) :=
  PE.imp (pe_callB (cr_sortedTO hc hu10) hg hm PyProof.Rows.boot_sorted (pa_cons (pe_callTy (cr_setOfT hc hu) hg2 hm2 PyProof.Rows.boot_set (pa_cons he pa_nil hs) (by decide) (by decide) hs hpl) pa_nil hs2) (by decide) (by decide) hs2 hpl2) fun _ _ _ h => rd1 (o_sortSetO (P := X.prog) (w := X.w)) h
end
end Dn

set_option Elab.async false
set_option linter.all false
set_option maxRecDepth 100000
set_option maxHeartbeats 1000000
namespace Dn
open PySem PySem.Spec PyProof.Rows L2
/-! ## x[k].append(None), x a local list of which nothing is asked any more -/
section
variable {K : PySem.W.Frag} {G : Gh} {X : Cx} {Z : Addr → Prop} {env : Env} {σ : L2.St} {H : Hp} {Fs : Nat → List Addr}
theorem StF.poke (S : StF K G Z env σ H Fs) {i : Nat} {p : Addr} {us0 us : List V} (hp : p ∈ Fs i) (ho : H p = some (.lst us0)) : StRel K G Z (env.set i none) σ (upd H p (.lst us)) ∧ Keep K G Z H Z (upd H p (.lst us)) := by
  obtain ⟨n0, nz, np, nk⟩ := S.new i p hp
  have kt : ∀ q ws, TupX K H q ws → TupX K (upd H p (.lst us)) q ws := fun q zs ht => by
    rcases ht with ⟨u, hu, ht⟩ | ht
    · exact .inl ⟨u, hu, by rw [upd_ne (fun z => by subst z; rw [ho] at ht; cases ht)]; exact ht⟩
    · exact .inr ht
  have kk : ∀ q, q ≠ p → upd H p (.lst us) q = H q := fun q hq => upd_ne hq
  refine ⟨⟨fun j => if j = i then [] else Fs j, by rw [List.length_set]; exact S.len, fun j d e => ?_, fun j => ?_, fun j k q a b => ?_, fun j q a => ?_, fun q z => ?_, ⟨fun q o hq e => ?_⟩, fun q e => ?_, S.pot0, S.z0, S.zn⟩, ⟨fun _ z => z, fun q o z e => (kk q (fun h => nz (h ▸ z))).trans e, kt⟩⟩
  · by_cases c : i = j
    · subst c
      rw [List.getElem?_set] at e
      split at e
      · split at e <;> cases e
      · rename_i h
        exact absurd rfl h
    · rw [List.getElem?_set_ne c] at e
      obtain ⟨v, a, b⟩ := S.at_ j d e
      refine ⟨v, a, ?_⟩
      rw [if_neg (fun h => c h.symm)]
      refine b.carry (fun _ z => z) (fun _ z => z) (fun _ _ z => z) (fun _ z => z) (fun q u l e => ?_) kt
      refine (kk q ?_).trans e
      rintro rfl
      rcases l with l | l | l | l
      · exact c (S.one i j q hp l)
      · exact nz l
      · exact l.1 n0
      · exact l.2
  · by_cases c : j = i
    · rw [if_pos c]; exact List.nodup_nil
    · rw [if_neg c]; exact S.nd j
  · by_cases c : j = i
    · rw [if_pos c] at a; cases a
    · by_cases c2 : k = i
      · rw [if_pos c2] at b; cases b
      · rw [if_neg c] at a
        rw [if_neg c2] at b
        exact S.one j k q a b
  · by_cases c : j = i
    · rw [if_pos c] at a; cases a
    · rw [if_neg c] at a
      obtain ⟨h1, h2, h3, h4⟩ := S.new j q a
      refine ⟨h1, h2, h3, ?_⟩
      rw [kk q (fun e => c ((S.one i j p hp (e ▸ a)).symm))]
      exact h4
  · obtain ⟨h1, h2⟩ := S.zf q z
    refine ⟨?_, h2⟩
    rw [kk q (fun h => nz (h ▸ z))]
    exact h1
  · refine (kk q (fun h => ?_)).trans (S.grow.keep q o hq e)
    subst h
    rw [n0] at e
    cases e
  · rw [kk q (fun h => np (by rw [← h]; exact e.symm))]
    exact S.pot q e
def pokeS (i k : Nat) : SD := fun env => (T.ofO (ownAt env i)).bind fun xs => match xs[k]? with
  | some (.lst .own ys) => if ys.length ≤ 1000000 then .ret (.nx (env.set i none)) else .fail
  | _ => .fail
theorem rdS_poke {i k : Nat} {dn : Ends} (h : RdS K G (pokeS i k) dn σ H) : tDrop (tBM K "list" rAppend (tOp (rIxL K) (tVar i) (tC (.int (k : Nat)))) (tCons (tC .non) tNil)) dn σ H := by
  obtain ⟨Z, env, S, h⟩ := h
  obtain ⟨xs, eo, h⟩ := mat_o h
  have ex := ownAt_some eo
  obtain ⟨Fs, S⟩ := S
  obtain ⟨p, ws, F', ev, hp, r, eF, _⟩ := S.mut ex
  cases ek : xs[k]? with
  | none => rw [ek] at h; exact h.elim
  | some d =>
    rw [ek] at h
    cases d with
    | lst f ys =>
      cases f with
      | own =>
        obtain ⟨c, h⟩ := ite_holds h
        obtain ⟨v, F1, hv, sub, r1⟩ := r.at ek
        have hk : k < ws.length := (List.getElem?_eq_some_iff.mp hv).1
        generalize eF1 : F1 = F2 at r1
        cases r1 with
        | sc e1 _ => simp [scV] at e1
        | shr e0 e1 =>
          have : (some Fl.own) = some _ := e0
          cases this
          exact e1.elim
        | @own _ _ p' us _ _ _ F3 F4 e1 e2 h1 h2 =>
          cases h2
          have hmem : p' ∈ Fs i := by
            rw [eF, List.append_nil]
            exact List.mem_cons_of_mem _ (sub.subset (by rw [eF1]; exact List.mem_cons_self))
          have hl := h1.len
          have go := fun us' => S.poke (us := us') hmem e2
          refine ⟨.ref p, ev, p, ws, ((k : Nat) : Int), .ref p', rfl, rfl, .of hp, ?_, .inl ⟨rfl, _, .inl (.of e2)⟩, p', us, .non, rfl, rfl, e2, size_lt (by omega), ?_⟩
          · rw [atI_nat ws k hk]; exact hv
          · obtain ⟨a, b⟩ := go (us ++ [.non])
            exact h Z σ _ a b
      | _ => exact h.elim
    | _ => exact h.elim
section
variable {x : Str} {xp kp np apos cpos pos ip : Pos} {j1 j2 : Nat}
theorem st_poke (i k : Nat) (hi : IsSl X i x) {kn : Nat}
    (hs : swapsWith (.Call (.Attribute (.Subscript (.Name x xp) (.Constant (.int (k : Nat)) kn kp) ip) "append" apos) [.Constant .none j2 np] [] cpos) none pos.line X.env = pure false := by rfl)
    (h1 : attributeBase (.Subscript (.Name x xp) (.Constant (.int (k : Nat)) kn kp) ip) "append" X.env (eval (.Subscript (.Name x xp) (.Constant (.int (k : Nat)) kn kp) ip) X.env) = eval (.Subscript (.Name x xp) (.Constant (.int (k : Nat)) kn kp) ip) X.env := by rfl)
    (h2 : ((backTo cpos (starEach [.Constant .none j2 np] X.env)).all (fun x => !x.1) && (backToKw cpos (keywordEach [] X.env)).all (fun x => x.1.isSome) && decide ([Expr.Constant .none j2 np].length + ([] : List Keyword).length + (if ([] : List Keyword).isEmpty then 0 else 1) < 30)) = true := by rfl)
    (h3 : (apos.endLine == cpos.line) = true := by rfl) (h4 : starEach [.Constant .none j2 np] X.env = (false, eval (.Constant .none j2 np) X.env) :: starEach [] X.env := by rfl) (h5 : (backTo cpos (starEach [] X.env)).any (·.1) = false := by rfl) :
    PS X (.Expr (.Call (.Attribute (.Subscript (.Name x xp) (.Constant (.int (k : Nat)) kn kp) ip) "append" apos) [.Constant .none j2 np] [] cpos) pos) (RdS X.K G (pokeS i k)) :=
  PS.imp (ps_expr (pe_bm PySem.F.plainAttrs_list PySem.F.slot_list_append PySem.F.type_list_append mt_append (pe_ix ix_list hi.pe pe_int (fun _ _ => rfl)) (pa_cons pe_non pa_nil h4) h1 h2 h3 h4 h5) hs) fun _ _ _ h => rdS_poke h
end
end
end Dn

set_option Elab.async false
namespace Dn
open PySem PySem.Spec PyProof.Rows L2
/-! ## a comprehension's block within another's -/
theorem blkOk_of {N N' : List Str} {sc sc' scope : Scope} {own : List (Str × Nat)} (ok : BlkOk N' sc' scope own) (h1 : N = N') (h2 : sc = sc') : BlkOk N sc scope own := by rw [h1, h2]; exact ok
end Dn

set_option Elab.async false
set_option linter.all false
set_option maxRecDepth 100000
set_option maxHeartbeats 600000
namespace Dn
open PySem PySem.Spec PyProof.Rows L2 PySem.W
/-! ## min(x) of a list of tuples of tuples of whole numbers -/
def tsP (nss : List (List Int)) : PyData := .tuple (nss.map tuP)
theorem alike_tus : ∀ xs ys : List (List Int), alikeAll (xs.map tuP) (ys.map tuP) = true
  | [], _ => by simp [alikeAll]
  | _ :: _, [] => by simp [alikeAll]
  | x :: xs, y :: ys => by
    rw [List.map_cons, List.map_cons, alikeAll, alike_tu, alike_tus xs ys]; rfl
theorem alike_tsP (xs ys : List (List Int)) : alike (tsP xs) (tsP ys) = true := by
  unfold tsP
  rw [alike, alike_tus]
theorem alikeAll_tsP (l : List (List (List Int))) : AlikeAll (l.map tsP) := by
  refine ⟨fun x hx y hy => ?_, fun x hx => ?_⟩
  · obtain ⟨a, _, rfl⟩ := List.mem_map.mp hx
    obtain ⟨b, _, rfl⟩ := List.mem_map.mp hy
    exact alike_tsP a b
  · obtain ⟨a, _, rfl⟩ := List.mem_map.mp hx
    exact fun h => by cases h
theorem depth_tsP : ∀ l : List (List (List Int)), PyData.depthAll (l.map tsP) ≤ 2
  | [] => by simp [PyData.depthAll]
  | x :: xs => by
    have := depth_tsP xs
    rw [List.map_cons, PyData.depthAll]
    have : (tsP x).depth ≤ 2 := by
      unfold tsP
      have := depth_tus x
      rw [PyData.depth]; omega
    omega
theorem tsP_inj {a b : List (List Int)} (h : tsP a = tsP b) : a = b := by
  unfold tsP at h
  injection h with h
  exact List.map_inj_right (fun x y e => tuP_inj e) |>.mp h
theorem toPL_ints : ∀ ns : List Int, toPL (ns.map D.int) = ns.map PyData.int
  | [] => by rw [List.map_nil, toPL]; rfl
  | n :: ns => by rw [List.map_cons, toPL, toPL_ints ns, toP]; rfl
theorem toP_tiP (ns : List Int) : toP (tiD ns) = tuP ns := by unfold tiD tuP; rw [toP, toPL_ints]
theorem toPL_tiP : ∀ nss : List (List Int), toPL (nss.map tiD) = nss.map tuP
  | [] => by rw [List.map_nil, toPL]; rfl
  | n :: ns => by rw [List.map_cons, toPL, toPL_tiP ns, toP_tiP]; rfl
theorem toPL_tsP : ∀ l : List (List (List Int)), toPL (l.map tsD) = l.map tsP
  | [] => by rw [List.map_nil, toPL]; rfl
  | n :: ns => by rw [List.map_cons, toPL, toPL_tsP ns]; unfold tsD tsP; rw [toP, toPL_tiP]; rfl
theorem dokL_tss (n : Nat) : ∀ l : List (List (List Int)), dokL (n + 2) (l.map tsD) = true
  | [] => by rw [List.map_nil, dokL]
  | x :: l => by
    rw [List.map_cons, dokL, dokL_tss n l]
    unfold tsD
    rw [dok, dok_tis n x]; rfl
def tssOf : List D → Option (List (List (List Int)))
  | [] => some []
  | .tup xs :: ds => (tisOf xs).bind fun nss => (tssOf ds).map (nss :: ·)
  | _ => none
theorem tssOf_eq : ∀ {xs : List D} {l : List (List (List Int))}, tssOf xs = some l → xs = l.map tsD
  | [], ns, e => by rw [← Option.some.inj e]; rfl
  | d :: ds, ns, e => by
    cases d with
    | tup xs =>
      rw [tssOf] at e
      obtain ⟨ms, e1, e⟩ := Option.bind_eq_some_iff.mp e
      obtain ⟨nss, e2, e3⟩ := Option.map_eq_some_iff.mp e
      rw [← e3, tssOf_eq e2, tisOf_eq e1]
      rfl
    | _ => simp [tssOf] at e
section
variable {K : PySem.W.Frag} {G : Gh} {X : Cx}
theorem DpAll.get {H : Hp} : ∀ {ws : List V} {ps : List PyData}, DpAll K H ws ps → ∀ (i : Nat) (w : V), ws[i]? = some w → ∃ p, ps[i]? = some p ∧ Dp K H w p
  | _, _, .nil, i, w, h => by simp at h
  | _, _, .cons a b, 0, w, h => by cases h; exact ⟨_, rfl, a⟩
  | _, _, .cons a b, i + 1, w, h => DpAll.get b i w h
def rMinG (K : PySem.W.Frag) : List V → Hp → VK → Prop := fun vs H Q => ∃ (l : Addr) (ws : List V) (x : PyData) (xs : List PyData), vs = [.ref l] ∧ SqL K H l ws ∧ DpAll K H ws (x :: xs) ∧ AlikeAll (x :: xs) ∧ PyData.depthAll (x :: xs) ≤ 8 ∧
  ∀ (i : Nat) (w : V), ws[i]? = some w → (x :: xs)[i]? = some (minD x xs) → Q w H
theorem cr_minG (hc : X.calm = true) (hu : X.A.units + 10 < cLine) : CallR X (.builtin "min") (rMinG X.K) := by
  intro pins s σ H vs us Q I r h
  obtain ⟨l, ws, x, xs, rfl, hs, hk, ha, hd, q⟩ := h
  obtain ⟨its, rv, hl, hz⟩ := I.list hs
  rw [Vals.ref1 r]
  obtain ⟨as, hr⟩ := Dp.readsAll I (x :: xs) _ its hk rv
  refine min_list_data (I.ok.hd hc) hl.isList (by simpa using hr) ha (by omega) fun i v h' tk bs hv hrd hkp => ?_
  have hv2 : its[i]? = some v := by simpa using hv
  have hi : i < its.length := (List.getElem?_eq_some_iff.mp hv2).1
  have hlen := rv.length
  have hik : i < ws.length := by omega
  obtain ⟨u, hu1, hu2⟩ := rv.get (i := i) (x := ws[i]) (List.getElem?_eq_getElem hik)
  rw [hv2] at hu1
  cases hu1
  obtain ⟨p, hp, hdp⟩ := DpAll.get hk i ws[i] (List.getElem?_eq_getElem hik)
  obtain ⟨cs, hrk⟩ := Dp.reads I p ws[i] v hdp hu2
  have hdet := (PyProof.Rows.reads_det (fun _ _ e _ => e) (reads_keeps hkp hrk) hrd).1
  exact ⟨_, H, I.kept hkp, hu2, q i _ (List.getElem?_eq_getElem hik) (by rw [hp, hdet])⟩
theorem cr_minG1 (hc : X.calm = true) (hu : X.A.units + 10 < cLine) : CallR X (.builtin "min") fun vs H Q => ∃ v, vs = [v] ∧ rMinG X.K [v] H Q := by
  intro pins s σ H xs us Q I r h
  obtain ⟨v, rfl, h⟩ := h
  exact cr_minG hc hu pins s σ H [v] us Q I r h
def minTTI (x : List (List Int)) (xs : List (List (List Int))) : List (List Int) := xs.foldl (fun a y => if dataLt (tsP y) (tsP a) = true then y else a) x
theorem minTTI_eq : ∀ (xs : List (List (List Int))) (x : List (List Int)), minD (tsP x) (xs.map tsP) = tsP (minTTI x xs)
  | [], x => rfl
  | y :: xs, x => by
    have ih := minTTI_eq xs (if dataLt (tsP y) (tsP x) = true then y else x)
    unfold minD minTTI at *
    rw [List.map_cons, List.foldl_cons, List.foldl_cons, ← ih]
    congr 1
    split <;> rfl
theorem minTTI_mem : ∀ (xs : List (List (List Int))) (x : List (List Int)), minTTI x xs ∈ x :: xs
  | [], x => List.mem_singleton.mpr rfl
  | y :: xs, x => by
    have ih := minTTI_mem xs (if dataLt (tsP y) (tsP x) = true then y else x)
    unfold minTTI at *
    rw [List.foldl_cons]
    rcases List.mem_cons.mp ih with e | e
    · rw [e]
      split
      · exact List.mem_cons_of_mem _ List.mem_cons_self
      · exact List.mem_cons_self
    · exact List.mem_cons_of_mem _ (List.mem_cons_of_mem _ e)
def D.minTT : D → T D
  | .lst _ xs => (T.ofO (tssOf xs)).bind fun l => match l with
    | [] => .fail
    | x :: l => .ret (tsD (minTTI x l))
  | _ => .fail
theorem ti_of_zs {Z : Zs} {H : Hp} {m : Fl} : ∀ (zs : List (Addr × List Int)), (∀ p ∈ zs, TupX K H p.1 (p.2.map V.int)) → RepL K Z H m ((zs.map (·.2)).map tiD) (zs.map fun p => V.ref p.1) []
  | [], _ => .nil
  | z :: zs, h => .tup (h z List.mem_cons_self) (rep_tint z.2) (ti_of_zs zs fun p hp => h p (List.mem_cons_of_mem _ hp))
theorem ts_any {Z Z' : Zs} {H : Hp} {m : Fl} {nss : List (List Int)} {v : V} {F : List Addr} (h : RepL K Z H m [tsD nss] [v] F) : RepL K Z' H .own [tsD nss] [v] [] := by
  cases h with
  | sc e _ => simp [tsD, scV] at e
  | tup e h1 h2 =>
    obtain ⟨zs, e1, e2, e3⟩ := ti_rep h1
    subst e1
    subst e2
    exact .tup e (ti_of_zs zs e3) .nil
theorem o_minTT : Op1 K G (fun x H Q => rMinG K [x] H Q) D.minTT := by
  intro Z H d1 v1 F1 Q t1 p h
  cases d1 <;> first | exact h.elim | skip
  obtain ⟨pa, ws, e1, s1, b1⟩ := lst_bor t1 (fun z hz => (p.own z hz).2) p.zf
  obtain ⟨nss, en, hh⟩ := mat_o h
  clear h
  have ex := tssOf_eq en
  subst ex
  cases nss with
  | nil => exact hh.elim
  | cons x nss =>
    subst e1
    have hd := b1.dp 2 (dokL_tss 0 (x :: nss))
    rw [toPL_tsP] at hd
    refine ⟨pa, ws, tsP x, nss.map tsP, rfl, .of s1, hd, alikeAll_tsP (x :: nss), Nat.le_trans (depth_tsP (x :: nss)) (by decide), fun i w hw e => ?_⟩
    have e0 : ((x :: nss).map tsP)[i]? = some (minD (tsP x) (nss.map tsP)) := e
    rw [minTTI_eq, List.getElem?_map] at e0
    obtain ⟨y, hy, e2⟩ := Option.map_eq_some_iff.mp e0
    have e3 := tsP_inj e2
    subst e3
    obtain ⟨w', F0, e5, _, r⟩ := b1.at (i := i) (d := tsD (minTTI x nss)) (by rw [List.getElem?_map, hy]; rfl)
    rw [hw] at e5
    cases e5
    exact hh Z w H [] (.same p (.inr ⟨rfl, ts_any r⟩))
end
end Dn

set_option Elab.async false
set_option linter.all false
set_option maxRecDepth 100000
set_option maxHeartbeats 1000000
namespace Dn
open PySem PySem.Spec PyProof.Rows L2
/-! ## sorted(d), d a dict whose keys are tuples of whole numbers -/
section
variable {prog : Program} {w : World} {A : Around} {E : Value → Shared → Prop} {s : Shared} {T : String} {r d : Addr} {n : Nat} {P : Nat → Value → Prop} {OK : Heap → Prop}
open PySem.Calls PyProof.V in
theorem collect_src {R : List Value → Shared → Prop} (K : PySem.W.KdlSrc prog w T r d n P OK) (hh : A.handled = none) (hok : OK s.heap) (hn : n ≤ sizeLine)
    (h : ∀ (h' : Heap) (tk : Nat) (acc : Array Value), s.heap.objs.size ≤ h'.objs.size → (∀ b o, s.heap.get? b = some o → h'.get? b = some o) → ItemsOf P acc n → R acc.toList { s with heap := h', toks := tk }) :
    wpAny (model prog w) A (collect (.ref r)) R E s := by
  have hlt := K.there _ hok
  unfold collect
  refine wpAny_bind (wpAny_runValue (codeAny_builtin entry_proto_collect' ?_))
  rw [Around.under_plainId PySem.F.plain_proto_collect _]
  show wpAny _ A.in1 (newList [] >>= fun l => again (.builtin "list.__iadd__" ⟨[l, .ref r], []⟩)) _ _ s
  refine wpAny_bind (wpAny_newObj_type ?_)
  refine wpAny_pure ⟨plainId_quiet PySem.F.plain_list_iadd _, codeAny_builtin entry_list_iadd' ?_⟩
  rw [Around.under_plainId PySem.F.plain_list_iadd _]
  have hS₁ : (s.heap.push { cls := .type "list", data := .seq ([] : List Value).toArray }).get? s.heap.objs.size = some { cls := .type "list", data := .seq #[] } := Heap.get?_push_size _ rfl
  show wpAny _ A.in1 (Builtin.List.listExtendWith (.ref s.heap.objs.size) (.ref r) (.ref s.heap.objs.size)) _ _ _
  have key := PySem.W.kdl_extend (A := A) (s := { s with heap := s.heap.push { cls := .type "list", data := .seq ([] : List Value).toArray } })
    (R := fun (q : Result) (s' : Shared) => ∃ (h' : Heap) (tk : Nat) (acc' : Array Value) (c' : Nat), q = .ok (.ret (.ref s.heap.objs.size)) ∧ s' = { s with heap := h', toks := tk } ∧
      (∀ b o, s.heap.get? b = some o → h'.get? b = some o) ∧ h'.get? s.heap.objs.size = some { cls := .type "list", dict := none, data := .seq acc' c', slots := #[] } ∧ ItemsOf P acc' n)
    K hh (K.keep _ _ hok fun b _ o e => Heap.get?_push_of_some _ e) s.heap.objs.size (Nat.ne_of_gt hlt.1) (Nat.ne_of_gt hlt.2) (.ref s.heap.objs.size) 0 hS₁
    (fun h' tk acc' c' hk hS' hacc => ⟨h', tk, acc', c', rfl, rfl, fun b o e => hk b o (Nat.ne_of_lt (Heap.lt_size e)) (Heap.get?_push_of_some _ e), hS', hacc⟩) hn
  refine wpAny_mono key (fun fin s' x => ?_) fun e s' x => ?_
  · cases fin with
    | done f =>
      obtain ⟨h', tk, acc', c', e, rfl, hk, hS', hacc⟩ := x
      cases e
      show wpAny _ A (load s.heap.objs.size >>= _) _ _ _
      refine wpAny_bind (wpAny_load hS' ?_)
      exact wpAny_pure (h h' tk acc' (Nat.le_of_lt (Heap.lt_size hS')) hk hacc)
    | again c₁ =>
      refine ⟨x.1, codeAny_mono x.2 fun q s₂ y => ?_⟩
      obtain ⟨h', tk, acc', c', rfl, rfl, hk, hS', hacc⟩ := y
      show wpAny _ A (load s.heap.objs.size >>= _) _ _ _
      refine wpAny_bind (wpAny_load hS' ?_)
      exact wpAny_pure (h h' tk acc' (Nat.le_of_lt (Heap.lt_size hS')) hk hacc)
  · obtain ⟨_, _, _, _, e', _⟩ := x
    cases e'
end
theorem zip_keys : ∀ {L : List (Addr × List Int)} {us : List Value}, L.length = us.length → (List.zipWith (fun (k : Addr × List Int) (u : Value) => (⟨tHashI k.2, .ref k.1, u⟩ : DictEntry)) L us).map (fun e => e.key) = L.map fun q => Value.ref q.1
  | [], [], _ => rfl
  | [], _ :: _, h => by cases h
  | _ :: _, [], h => by cases h
  | a :: L, u :: us, h => by rw [List.zipWith_cons_cons, List.map_cons, zip_keys (Nat.succ.inj h)]; rfl
def rSortedD (K : PySem.W.Frag) : List V → Hp → VK → Prop := fun vs H Q => ∃ (p : Addr) (ks : List (Addr × List Int)) (ws : List V), vs = [V.ref p] ∧ DicH K H p ks ws ∧
  ∀ (L' : List (Addr × List Int)) (q : Addr), L'.Perm ks → L'.Pairwise (fun q r => HT.lexLt r.2 q.2 = false) → H q = none → Q (.ref q) (upd H q (.lst (L'.map fun q => V.ref q.1)))
theorem cr_sortedD {X : Cx} (hc : X.calm = true) (hu : X.A.units + 10 < cLine) : CallR X (.builtin "sorted") (rSortedD X.K) := by
  intro pins st σ H xs us0 Q I r h
  obtain ⟨p, L, ws, rfl, hd, q⟩ := h
  obtain ⟨hd1, hd2⟩ := hd
  obtain ⟨hsm, hz, hl, nd, o, es, ep, us, ho, hex, hdt, rv, he⟩ := (show DicR p L ws st.heap from (I.hok p _ hd1).1)
  have hu2 : L.length = us.length := hl.trans rv.length
  rw [Vals.ref1 r]
  have hkeys : es.toList.map (fun e => e.key) = L.map fun q => Value.ref q.1 := by rw [he]; exact zip_keys hu2
  have hsz : es.size = L.length := by
    have := congrArg List.length hkeys
    rw [List.length_map, List.length_map, Array.length_toList] at this
    exact this
  have inj : ∀ {l m : List Int}, l.map V.int = m.map V.int → l = m := fun {l m} e => by
    have := congrArg (List.map fun v => match v with | V.int i => i | _ => 0) e
    simpa [List.map_map, Function.comp_def] using this
  have one : ∀ q ∈ L, ∀ r ∈ L, q.1 = r.1 → q = r := fun q hq r hr e => by
    have a1 := hd2 q hq
    have a2 := hd2 r hr
    rw [e] at a1
    exact Prod.ext e (inj (I.tuple_inj a1 a2))
  let k : Value → List Int := fun v => ((L.find? fun p => decide (Value.ref p.1 = v)).map (·.2)).getD []
  have hkk : ∀ p ∈ L, k (.ref p.1) = p.2 := by
    intro p hp
    show ((L.find? fun r => decide (Value.ref r.1 = Value.ref p.1)).map (·.2)).getD [] = p.2
    cases e : L.find? fun r => decide (Value.ref r.1 = Value.ref p.1) with
    | none =>
      have := List.find?_eq_none.mp e p hp
      simp at this
    | some r =>
      have h1 := List.find?_some e
      have h2 := List.mem_of_find?_eq_some e
      have h3 : r.1 = p.1 := by simpa using h1
      show r.2 = p.2
      rw [one r h2 p hp h3]
  have hT : ∀ p ∈ L, TI st.heap (.ref p.1) p.2 := by
    intro p hp
    obtain ⟨itz, rz, ⟨o, e, c, n, d⟩, _⟩ := I.tuple (hd2 p hp)
    exact ⟨p.1, o, itz, n, rfl, e, c, d, by simpa using L2.intsAre_of rz⟩
  refine Calls.call_function_entry kind_sorted plain_sorted entry_sorted (args_sorted1 _) ?_
  unfold Builtin.«sorted»
  refine wpAny_bind (m := checkCount "sorted" 1 1 _) (wpAny_pure ?_)
  refine wpAny_bind (collect_src (A := X.A.in1) (KdlSrc.rawDict (es := es) (ep := ep) hsm) (I.ok.hd hc) ⟨o, ho, hex, hdt⟩ (by rw [hsz]; exact hz) fun h' tk acc hz2 k1 hacc => ?_)
  have hvs : acc.toList = L.map fun q => Value.ref q.1 := by
    rw [← hkeys]
    refine List.ext_getElem? fun i => ?_
    by_cases c : i < es.size
    · have h1 : i < acc.size := by rw [hacc.1]; exact c
      obtain ⟨hi, e2⟩ := hacc.2 i acc[i] (Array.getElem?_eq_getElem h1)
      rw [List.getElem?_map, Array.getElem?_toList, Array.getElem?_toList, Array.getElem?_eq_getElem h1, Array.getElem?_eq_getElem c, e2]; rfl
    · rw [List.getElem?_eq_none (by rw [Array.length_toList, hacc.1]; omega), List.getElem?_eq_none (by rw [List.length_map, Array.length_toList]; omega)]
  generalize hgv : acc.toList = vs at hvs ⊢
  have hvl : vs.length ≤ sizeLine := by rw [hvs, List.length_map]; exact hz
  refine wpAny_bind (wpAny_newList ?_ hvl)
  have hoL : (h'.push (seqObj "list" vs.toArray 0)).get? h'.objs.size = some (seqObj "list" vs.toArray 0) := Heap.get?_push_size _ rfl
  have hmem : ∀ v ∈ vs, ∃ q ∈ L, v = Value.ref q.1 := fun v hv => by
    rw [hvs] at hv
    obtain ⟨q, hq, e⟩ := List.mem_map.mp hv
    exact ⟨q, hq, e.symm⟩
  have hTv : ∀ v ∈ vs, TI (h'.push (seqObj "list" vs.toArray 0)) v (k v) := by
    intro v hv
    obtain ⟨q, hq, rfl⟩ := hmem v hv
    rw [hkk q hq]
    exact (hT q hq).keeps fun b o e _ => Heap.get?_push_of_some _ (k1 b o e)
  refine wpAny_bind (wpAny_holding (wpAny_call_entry slot_list_sort ⟨_, hoL, rfl⟩ entry_list_sort (SrtO.list_sort_ord (s := { st with heap := h'.push (seqObj "list" vs.toArray 0), toks := tk }) (swo_tups k) hoL hvl
    (fun h2 => ti_sortable (by show X.A.units + 1 + 1 + 1 < _; omega) h2 hTv fun o e c => by
      have e' : some o = some (seqObj "list" vs.toArray 0) := e.symm.trans hoL
      cases e'
      exact absurd (Value.type.inj c) (by decide)) fun out a1 a2 => ⟨_, rfl, ?_⟩) (args_list_sort _)))
  have hout : ∀ v ∈ out, ∃ q ∈ L, v = Value.ref q.1 := fun v hv => hmem v (a2.perm.mem_iff.mp hv)
  obtain ⟨c, hcc⟩ := sortedHeap_at (vs := vs) (out := out.toArray) hoL
  obtain ⟨L', e', hs'⟩ := refs_of L hout
  have pL : L'.Perm L := by
    have p1 : (L'.map fun q => Value.ref q.1).Perm (L.map fun q => Value.ref q.1) := by rw [← e', ← hvs]; exact a2.perm
    have nL : L.Nodup := nodup_of_map nd
    have nref : (L.map fun q => Value.ref q.1).Nodup := by
      refine List.pairwise_map.mpr (List.Pairwise.imp_of_mem (fun {q r} hq hr hne e => ?_) nL)
      injection e with e
      exact hne (one q hq r hr e)
    have n1 : L'.Nodup := nodup_of_map (p1.nodup_iff.mpr nref)
    refine (List.perm_ext_iff_of_nodup n1 nL).mpr fun q => ⟨hs' q, fun hq => ?_⟩
    obtain ⟨r, hr, e⟩ := List.mem_map.mp (p1.mem_iff.mpr (List.mem_map.mpr ⟨q, hq, rfl⟩))
    injection e with e
    rw [← one r (hs' r hr) q hq e]
    exact hr
  have pw : L'.Pairwise (fun q r => HT.lexLt r.2 q.2 = false) := by
    have a1 : List.Pairwise _ out := a1
    rw [e'] at a1
    refine List.Pairwise.imp_of_mem (fun {q r} hq hr hle => ?_) (List.pairwise_map.mp a1)
    have : HT.lexLt (k (.ref r.1)) (k (.ref q.1)) = false := hle
    rw [hkk r (hs' r hr), hkk q (hs' q hq)] at this
    exact this
  have hn : H h'.objs.size = none := I.hok.fresh hz2
  have hlen : (L'.map fun q => V.ref q.1).length ≤ sizeLine := by rw [List.length_map, pL.length_eq]; exact hz
  have hv : Vals (L'.map fun q => V.ref q.1) out := by rw [e']; exact vals_of_refs L'
  have kp : ∀ b u, st.heap.get? b = some u → (sortedHeap (h'.push (seqObj "list" vs.toArray 0)) h'.objs.size vs out.toArray).get? b = some u := by
    intro b u e
    have q := k1 b u e
    have hlt := Heap.lt_size q
    rw [sortedHeap_old (Nat.ne_of_lt hlt) (by rw [size_push']; exact Nat.lt_succ_of_lt hlt)]
    exact Heap.get?_push_of_some _ q
  have J : Inv X pins σ (upd H h'.objs.size (.lst (L'.map fun q => V.ref q.1))) { st with heap := sortedHeap (h'.push (seqObj "list" vs.toArray 0)) h'.objs.size vs out.toArray, toks := tk } :=
    I.laid kp hz2 ⟨hlen, out, c, hv, hcc⟩
  exact wpAny_pure ⟨_, rfl, .ref _, _, J, rfl, q L' _ pL pw hn⟩
def D.sortedD : D → T D
  | .dic _ kvs => (T.ofO (tisOf (kvs.map (·.1)))).bind fun nss => .ret (.lst .own ((isort HT.lexLt nss).map tiD))
  | d => D.sortedX d
section
variable {K : PySem.W.Frag} {G : Gh} {X : Cx}
def rSort4 (K : PySem.W.Frag) : List V → Hp → VK → Prop := fun vs H Q => rSort3 K vs H Q ∨ rSortedD K vs H Q
theorem o_sortedD : Op1 K G (fun x H Q => rSort4 K [x] H Q) D.sortedD := by
  intro Z H d1 v1 F1 Q t1 p h
  cases d1 with
  | dic f kvs =>
    obtain ⟨nss, en, hh⟩ := mat_o h
    clear h
    obtain ⟨pa, o, kws, ws, F', e1, e2, b, r, g1, g2, g3⟩ := dic_val t1
    unfold kvL at r g3
    generalize hk : kvs.map (·.1) = keys at b r g3
    cases b with
    | @x ks vs hl =>
      obtain ⟨i1, i2⟩ := keys_rep r
      have es := keys_tis hk en
      refine .inr ⟨pa, ks, ws, by rw [e1], ⟨e2, fun k hk => (i1 k hk).sq⟩, fun ys q hp hs n => ?_⟩
      have es2 : ys.map (·.2) = isort HT.lexLt nss := by
        refine srt_uniq anti_lex (List.pairwise_map.mpr hs) (isort_srtd swo_lexL nss) ?_
        rw [es]
        exact (hp.map _).trans (isort_perm _).symm
      have r2 := rep_ti (K := K) (Z := G.zs Z) (H := H) (m := .own) ys fun q hq => (i1 q (hp.mem_iff.mp hq))
      have e3 : (ys.map fun q => tiD q.2) = (isort HT.lexLt nss).map tiD := by rw [← es2, List.map_map]; rfl
      rw [e3] at r2
      exact hh Z _ _ _ (.lst p r2 (List.nil_sublist _) n)
  | lst f xs => exact .inl (o_sortedX Z H _ v1 F1 Q t1 p h)
  | tup xs => exact .inl (o_sortedX Z H _ v1 F1 Q t1 p h)
  | _ => exact h.elim
theorem cr_sorted4 (hc : X.calm = true) (hu : X.A.units + 10 < cLine) : CallR X (.builtin "sorted") fun vs H Q => ∃ v, vs = [v] ∧ rSort4 X.K [v] H Q := CallR.imp (CallR.or (CallR.or (CallR.or cr_sortedI (cr_sortTI hu)) cr_sortedTI) (cr_sortedD hc hu)) fun vs H Q ⟨v, e, h⟩ => by rw [e]; exact h
end
end Dn

set_option Elab.async false
set_option linter.all false
set_option maxRecDepth 100000
set_option maxHeartbeats 1000000
namespace Dn
open PySem PySem.Spec PyProof.Rows L2
/-! ## for y in x[:k]: y.append(None), x a local list of which nothing is asked any more -/
section
variable {K : PySem.W.Frag} {G : Gh} {X : Cx} {Z : Addr → Prop} {env : Env} {σ : L2.St} {H : Hp} {Fs : Nat → List Addr}
theorem StF.drop (S : StF K G Z env σ H Fs) (i : Nat) : StF K G Z (env.set i none) σ H (fun j => if j = i then [] else Fs j) := by
  refine ⟨by rw [List.length_set]; exact S.len, fun j d e => ?_, fun j => ?_, fun j k q a b => ?_, fun j q a => ?_, S.zf, S.grow, S.pot, S.pot0, S.z0, S.zn⟩
  · by_cases c : i = j
    · subst c
      rw [List.getElem?_set] at e
      split at e
      · split at e <;> cases e
      · rename_i h
        exact absurd rfl h
    · rw [List.getElem?_set_ne c] at e
      obtain ⟨v, a, b⟩ := S.at_ j d e
      exact ⟨v, a, by rw [if_neg (fun h => c h.symm)]; exact b⟩
  · by_cases c : j = i
    · rw [if_pos c]; exact List.nodup_nil
    · rw [if_neg c]; exact S.nd j
  · by_cases c : j = i
    · rw [if_pos c] at a; cases a
    · by_cases c2 : k = i
      · rw [if_pos c2] at b; cases b
      · rw [if_neg c] at a
        rw [if_neg c2] at b
        exact S.one j k q a b
  · by_cases c : j = i
    · rw [if_pos c] at a; cases a
    · rw [if_neg c] at a
      exact S.new j q a
/-- what stands in no slot's lists -/
structure Loose (G : Gh) (Z : Addr → Prop) (Fs : Nat → List Addr) (p : Addr) : Prop where
  n0 : G.H0 p = none
  nz : ¬ Z p
  np : some p ≠ G.pot
  nf : ∀ j, p ∉ Fs j
theorem StF.loose (S : StF K G Z env σ H Fs) {i : Nat} {p : Addr} (hp : p ∈ Fs i) (f : Nat → List Addr) (hf : ∀ j, f j = if j = i then [] else Fs j) : Loose G Z f p := by
  obtain ⟨n0, nz, np, _⟩ := S.new i p hp
  refine ⟨n0, nz, np, fun j h => ?_⟩
  rw [hf] at h
  by_cases c : j = i
  · rw [if_pos c] at h; cases h
  · rw [if_neg c] at h
    exact c (S.one j i p h hp)
theorem StF.pokeL (S : StF K G Z env σ H Fs) {p : Addr} {us0 us : List V} (l : Loose G Z Fs p) (ho : H p = some (.lst us0)) : StF K G Z env σ (upd H p (.lst us)) Fs ∧ Keep K G Z H Z (upd H p (.lst us)) := by
  have nz := l.nz
  have kt : ∀ q ws, TupX K H q ws → TupX K (upd H p (.lst us)) q ws := fun q zs ht => by
    rcases ht with ⟨u, hu, ht⟩ | ht
    · exact .inl ⟨u, hu, by rw [upd_ne (fun z => by subst z; rw [ho] at ht; cases ht)]; exact ht⟩
    · exact .inr ht
  have kk : ∀ q, q ≠ p → upd H p (.lst us) q = H q := fun q hq => upd_ne hq
  refine ⟨⟨S.len, fun j d e => ?_, S.nd, S.one, fun j q a => ?_, fun q z => ?_, ⟨fun q o hq e => ?_⟩, fun q e => ?_, S.pot0, S.z0, S.zn⟩, ⟨fun _ z => z, fun q o z e => (kk q (fun h => nz (h ▸ z))).trans e, kt⟩⟩
  · obtain ⟨v, a, b⟩ := S.at_ j d e
    refine ⟨v, a, ?_⟩
    refine b.carry (fun _ z => z) (fun _ z => z) (fun _ _ z => z) (fun _ z => z) (fun q u lq e => ?_) kt
    refine (kk q ?_).trans e
    rintro rfl
    rcases lq with lq | lq | lq | lq
    · exact l.nf j lq
    · exact nz lq
    · exact lq.1 l.n0
    · exact lq.2
  · obtain ⟨h1, h2, h3, h4⟩ := S.new j q a
    refine ⟨h1, h2, h3, ?_⟩
    rw [kk q (fun e => l.nf j (e ▸ a))]
    exact h4
  · obtain ⟨h1, h2⟩ := S.zf q z
    refine ⟨?_, h2⟩
    rw [kk q (fun h => nz (h ▸ z))]
    exact h1
  · refine (kk q (fun h => ?_)).trans (S.grow.keep q o hq e)
    subst h
    rw [l.n0] at e
    cases e
  · rw [kk q (fun h => l.np (by rw [← h]; exact e.symm))]
    exact S.pot q e
theorem StF.slot (S : StF K G Z env σ H Fs) {j : Nat} (hj : env[j]? = some none) (v : V) : StF K G Z env (σ.set j (some v)) H Fs :=
  ⟨by rw [List.length_set]; exact S.len, fun k d e => by
    obtain ⟨u, a, b⟩ := S.at_ k d e
    refine ⟨u, ?_, b⟩
    rw [List.getElem?_set_ne (fun h => by subst h; rw [hj] at e; cases e)]
    exact a, S.nd, S.one, S.new, S.zf, S.grow, S.pot, S.pot0, S.z0, S.zn⟩
def okL : D → Bool
  | .lst .own ys => decide (ys.length ≤ 1000000)
  | _ => false
def pokesS (i j k : Nat) : SD := fun env => (T.ofO (ownAt env i)).bind fun xs => if (xs.take k).all okL = true ∧ i ≠ j ∧ j < env.length ∧ k ≤ 1000 ∧ k ≤ xs.length then .ret (.nx ((env.set i none).set j none)) else .fail
theorem rdS_pokes {i j k : Nat} {dn : Ends} (h : RdS K G (pokesS i j k) dn σ H) : tFor (iList K (tSl (rSlL K) (tVar i) tNoPart (tPart (tC (.int (k : Nat)))))) (gName j) (tDrop (tBM K "list" rAppend (tVar j) (tCons (tC .non) tNil))) dn σ H := by
  obtain ⟨Z, env, S, h⟩ := h
  obtain ⟨xs, eo, h⟩ := mat_o h
  have ex := ownAt_some eo
  obtain ⟨Fs, S⟩ := S
  obtain ⟨p, ws, F', ev, hp, r, eF, _⟩ := S.mut ex
  obtain ⟨⟨c1, c2, c3, c4, c5⟩, h⟩ := ite_holds h
  have hwl : ws.length = xs.length := r.len.symm
  let f1 : Nat → List Addr := fun a => if a = i then [] else Fs a
  let f2 : Nat → List Addr := fun a => if a = j then [] else f1 a
  have S1 : StF K G Z (env.set i none) σ H f1 := S.drop i
  have S2 : StF K G Z ((env.set i none).set j none) σ H f2 := S1.drop j
  have hej : ((env.set i none).set j none)[j]? = some none := by rw [List.getElem?_set_self (by rw [List.length_set]; exact c3)]
  have hat : ∀ t x, t < k → ws[t]? = some x → ∃ q us, x = .ref q ∧ Loose G Z f2 q ∧ H q = some (.lst us) ∧ us.length ≤ 1000000 := by
    intro t x ht hx
    have htx : t < xs.length := by rw [← hwl]; exact (List.getElem?_eq_some_iff.mp hx).1
    have hd : xs[t]? = some xs[t] := List.getElem?_eq_getElem htx
    have ho : okL xs[t] = true := List.all_eq_true.mp c1 _ (List.mem_iff_getElem.mpr ⟨t, by rw [List.length_take]; omega, by rw [List.getElem_take]⟩)
    generalize xs[t] = d at hd ho
    obtain ⟨v, F1, hv, sub, r1⟩ := r.at hd
    rw [hx] at hv
    cases hv
    cases d with
    | lst f ys =>
      cases f with
      | own =>
        have hys : ys.length ≤ 1000000 := of_decide_eq_true ho
        generalize eF1 : F1 = F2 at r1
        cases r1 with
        | sc e1 _ => simp [scV] at e1
        | shr e0 e1 =>
          have : (some Fl.own) = some _ := e0
          cases this
          exact e1.elim
        | @own _ _ p' us _ _ _ F3 F4 e1 e2 h1 h2 =>
          cases h2
          have hmem : p' ∈ Fs i := by
            rw [eF, List.append_nil]
            exact List.mem_cons_of_mem _ (sub.subset (by rw [eF1]; exact List.mem_cons_self))
          have l1 : Loose G Z f1 p' := S.loose hmem f1 fun _ => rfl
          refine ⟨p', us, rfl, ⟨l1.n0, l1.nz, l1.np, fun a ha => ?_⟩, e2, by rw [← h1.len]; exact hys⟩
          by_cases c : a = j
          · have : f2 a = [] := if_pos c
            rw [this] at ha; cases ha
          · have : f2 a = f1 a := if_neg c
            rw [this] at ha
            exact l1.nf a ha
      | _ => cases ho
    | _ => cases ho
  have hzs : ∀ t x, (cutV ws none (some (k : Int)))[t]? = some x → t < k ∧ ws[t]? = some x := by
    intro t x hx
    unfold cutV at hx
    rw [HT.sIx_none, HT.sIx_nat, List.drop_zero] at hx
    rw [List.getElem?_take] at hx
    split at hx
    · rename_i hlt
      exact ⟨by omega, hx⟩
    · cases hx
  refine ⟨.ref p, ev, ⟨((k : Nat) : Int), rfl, p, ws, rfl, .of hp, fun q nq => ⟨q, rfl, ⟨_, .of upd_same⟩, ?_⟩⟩⟩
  generalize hz : cutV ws none (some (k : Int)) = zs at hzs
  have g0 : Go G Z H Z (upd H q (.lst zs)) := Go.new S2.pot S2.zf nq
  refine for_it (walk_list (K := K) (a := q) (xs := zs)) (fun (t : Nat) (σ' : L2.St) (H' : Hp) => StF K G Z ((env.set i none).set j none) σ' H' f2 ∧ Keep K G Z H Z H' ∧ H' q = some (.lst zs) ∧ ∀ (u : Nat) (x : V), zs[u]? = some x → ∃ a us, x = V.ref a ∧ a ≠ q ∧ Loose G Z f2 a ∧ H' a = some (.lst us) ∧ us.length ≤ 1000000 + t) ⟨S2.go g0, g0.keep, upd_same, fun u x hx => ?_⟩ (fun t σ' H' _ hP => .of hP.2.2.1) ?_ ?_
  · obtain ⟨h1, h2⟩ := hzs u x hx
    obtain ⟨a, us, e1, e2, e3, e4⟩ := hat u x h1 h2
    have hne : a ≠ q := fun e => by rw [e, nq] at e3; cases e3
    exact ⟨a, us, e1, hne, e2, by rw [upd_ne hne]; exact e3, e4⟩
  · rintro t x σ' H' H'' hlt ⟨T1, T2, T3, T4⟩ ⟨rfl, hx⟩
    obtain ⟨a, us, rfl, hne, l, ha, hl⟩ := T4 t x hx
    have hlen : t < 1000 := by
      have := (hzs t _ hx).1
      omega
    have T5 := (T1.slot hej (.ref a)).pokeL (us := us ++ [.non]) l ha
    refine ⟨.ref a, ?_, .inl ⟨rfl, _, .inl (.of ha)⟩, a, us, .non, rfl, rfl, ha, by rw [sizeLine_eq]; omega, T5.1, T2.trans T5.2, ?_, fun u y hy => ?_⟩
    · show (σ'.set j (some (V.ref a)))[j]? = _
      rw [List.getElem?_set_self (by rw [T1.len, List.length_set, List.length_set]; exact c3)]
    · rw [upd_ne (Ne.symm hne)]; exact T3
    · obtain ⟨b, us2, e1, e2, e3, e4, e5⟩ := T4 u y hy
      by_cases c : b = a
      · subst c
        rw [ha] at e4
        cases e4
        exact ⟨b, us ++ [.non], e1, e2, e3, upd_same, by rw [List.length_append, List.length_singleton]; omega⟩
      · exact ⟨b, us2, e1, e2, e3, by rw [upd_ne c]; exact e4, by omega⟩
  · rintro σ' H' ⟨T1, T2, _, _⟩
    exact h Z σ' H' ⟨f2, T1⟩ T2
section
variable {x y : Str} {xp yp yp2 np apos cpos epos sp ip kp pos : Pos} {j2 kn : Nat}
theorem st_pokes (i j k : Nat) (hi : IsSl X i x) (hj : IsSl X j y) (nd : X.N.Nodup) (hp : PassesOwn (model X.prog X.w) X.A X.env X.xe) (hc : X.calm = true)
    (hjN : X.N[j]? = some y := by rfl) (hjx : Loc X.env.scope y := by first | exact Or.inl rfl | exact Or.inr rfl) (hjf : X.fn y = true ∨ X.env.scope.names.lookup y = some .local := by first | exact .inl rfl | exact .inr rfl)
    (hs : swapsWith (.Call (.Attribute (.Name y yp2) "append" apos) [.Constant .none j2 np] [] cpos) none epos.line X.env = pure false := by rfl)
    (h1 : attributeBase (.Name y yp2) "append" X.env (eval (.Name y yp2) X.env) = eval (.Name y yp2) X.env := by rfl)
    (h2 : ((backTo cpos (starEach [.Constant .none j2 np] X.env)).all (fun x => !x.1) && (backToKw cpos (keywordEach [] X.env)).all (fun x => x.1.isSome) && decide ([Expr.Constant .none j2 np].length + ([] : List Keyword).length + (if ([] : List Keyword).isEmpty then 0 else 1) < 30)) = true := by rfl)
    (h3 : (apos.endLine == cpos.line) = true := by rfl) (h4 : starEach [.Constant .none j2 np] X.env = (false, eval (.Constant .none j2 np) X.env) :: starEach [] X.env := by rfl) (h5 : (backTo cpos (starEach [] X.env)).any (·.1) = false := by rfl)
    (hf : ∀ z, foldedSetIterable (.Subscript (.Name x xp) (.Slice none (some (.Constant (.int (k : Nat)) kn kp)) none sp) ip) X.env z = pure z := by intro _; rfl) :
    PS X (.For (.Name y yp) (.Subscript (.Name x xp) (.Slice none (some (.Constant (.int (k : Nat)) kn kp)) none sp) ip) [.Expr (.Call (.Attribute (.Name y yp2) "append" apos) [.Constant .none j2 np] [] cpos) epos] [] pos) (RdS X.K G (pokesS i j k)) :=
  PS.imp (ps_for hp hc (pi_list (pe_slice sl_list hi.pe po_none (po_some pe_int))) (pg_name nd hjN hjx hjf)
    (pss_one (ps_expr (pe_bm PySem.F.plainAttrs_list PySem.F.slot_list_append PySem.F.type_list_append mt_append hj.pe (pa_cons pe_non pa_nil h4) h1 h2 h3 h4 h5) hs)) hf) fun _ _ _ h => rdS_pokes h
end
end
end Dn

set_option Elab.async false
set_option linter.all false
set_option maxRecDepth 100000
set_option maxHeartbeats 1000000
namespace Dn
open PySem PySem.Spec PyProof.Rows L2
/-! ## len(dict(x)), x a list of pairs of a tuple of whole numbers and a whole number -/
abbrev PrZ := Addr × Addr × List Int × Int
def rDictOf (K : PySem.W.Frag) : List V → Hp → VK → Prop := fun vs H Q => ∃ (l : Addr) (zs : List PrZ), vs = [V.ref l] ∧ SqL K H l (zs.map fun z => V.ref z.1) ∧ (∀ z ∈ zs, SqT K H z.1 [V.ref z.2.1, V.int z.2.2.2] ∧ SqT K H z.2.1 (z.2.2.1.map V.int)) ∧ zs.length ≤ 100000 ∧
  ∀ (p : Addr) (ks : List (Addr × List Int)) (ws : List V), H p = none → ks.length = ws.length → (ks.map (·.2)).Nodup → (∀ k, k ∈ ks.map (·.2) ↔ k ∈ zs.map fun z => z.2.2.1) → (∀ k ∈ ks, ∃ z ∈ zs, k = (z.2.1, z.2.2.1)) → Q (.ref p) (upd H p (DicO p ks ws))
section
variable {K : Type} [DecidableEq K]
theorem at_mem {xs : List (K × Addr × Value)} {k : K} : (atKey xs k).isSome = true ↔ k ∈ xs.map (·.1) := by
  unfold atKey
  rw [Option.isSome_map, List.find?_isSome]
  constructor
  · rintro ⟨x, hx, e⟩
    exact List.mem_map.mpr ⟨x, hx, of_decide_eq_true e⟩
  · intro h
    obtain ⟨x, hx, e⟩ := List.mem_map.mp h
    exact ⟨x, hx, decide_eq_true e⟩
theorem stored_keys {xs : List (K × Addr × Value)} {k x : K} {a : Addr} {v : Value} : x ∈ (storedH xs k a v).map (·.1) ↔ x ∈ xs.map (·.1) ∨ x = k := by
  unfold storedH
  split
  · rename_i h
    have e : (xs.map (PySem.putAt k v)).map (·.1) = xs.map (·.1) := by
      rw [List.map_map]
      refine List.map_congr_left fun y _ => ?_
      show (PySem.putAt k v y).1 = y.1
      unfold PySem.putAt
      split <;> rfl
    rw [e]
    exact ⟨.inl, fun q => q.elim id fun q => by rw [q]; exact at_mem.mp h⟩
  · rw [List.map_append, List.mem_append, List.map_singleton, List.mem_singleton]
theorem stored_all {P : K → Addr → Prop} {V : Value → Prop} {xs : List (K × Addr × Value)} {k : K} {a : Addr} {v : Value} (h : ∀ x ∈ xs, P x.1 x.2.1 ∧ V x.2.2) (hk : P k a) (hv : V v) : ∀ x ∈ storedH xs k a v, P x.1 x.2.1 ∧ V x.2.2 := by
  intro x hx
  unfold storedH at hx
  split at hx
  · obtain ⟨y, hy, rfl⟩ := List.mem_map.mp hx
    obtain ⟨h1, h2⟩ := h y hy
    unfold PySem.putAt
    split
    · exact ⟨h1, hv⟩
    · exact ⟨h1, h2⟩
  · rcases List.mem_append.mp hx with q | q
    · exact h x q
    · rw [List.mem_singleton.mp q]
      exact ⟨hk, hv⟩
theorem all_keys {ps : List (K × Addr × Value)} : ∀ {xs : List (K × Addr × Value)} {x : K}, x ∈ (storedAllH xs ps).map (·.1) ↔ x ∈ xs.map (·.1) ∨ x ∈ ps.map (·.1) := by
  induction ps with
  | nil => exact fun {xs x} => ⟨.inl, fun h => h.elim id fun h => nomatch h⟩
  | cons p ps ih =>
    intro xs x
    show x ∈ (storedAllH (storedH xs p.1 p.2.1 p.2.2) ps).map (·.1) ↔ _
    rw [ih, stored_keys, List.map_cons, List.mem_cons, or_assoc]
theorem all_all {P : K → Addr → Prop} {V : Value → Prop} {ps : List (K × Addr × Value)} : ∀ {xs : List (K × Addr × Value)}, (∀ x ∈ xs, P x.1 x.2.1 ∧ V x.2.2) → (∀ x ∈ ps, P x.1 x.2.1 ∧ V x.2.2) → ∀ x ∈ storedAllH xs ps, P x.1 x.2.1 ∧ V x.2.2 := by
  induction ps with
  | nil => exact fun {xs} h _ => h
  | cons p ps ih =>
    intro xs h1 h2
    obtain ⟨a, b⟩ := h2 p List.mem_cons_self
    exact ih (stored_all h1 a b) fun x hx => h2 x (List.mem_cons_of_mem _ hx)
end
def intV : Value → V
  | .int i _ => .int i
  | _ => .non
theorem ints_vals : ∀ {us : List Value}, (∀ u ∈ us, ∃ i t, u = Value.int i t) → Vals (us.map intV) us
  | [], _ => .nil
  | u :: us, h => by
    obtain ⟨i, t, rfl⟩ := h u List.mem_cons_self
    exact .cons ⟨t, rfl⟩ (ints_vals fun v hv => h v (List.mem_cons_of_mem _ hv))
section
variable {X : Cx}
theorem cr_dictOf (hc : X.calm = true) (hu : X.A.units + 64 < cLine) : CallR X (.type "dict") (rDictOf X.K) := by
  intro pins s σ H xs us0 Q I r h
  obtain ⟨l, zs, rfl, hl, hz, hn, q⟩ := h
  rw [Vals.ref1 r]
  obtain ⟨its, rv, pl, hzz⟩ := I.list hl
  have eits : its = zs.map fun z => Value.ref z.1 := by
    have : ∀ (zs : List PrZ) (its : List Value), Vals (zs.map fun z => V.ref z.1) its → its = zs.map fun z => Value.ref z.1 := by
      intro zs
      induction zs with
      | nil => intro its h; cases h; rfl
      | cons z zs ih =>
        intro its h
        cases h with
        | cons h1 h2 => rw [List.map_cons, ← ih _ h2, show _ = Value.ref z.1 from h1]
    exact this zs its rv
  -- the pairs, as values
  have hp : ∀ z ∈ zs, ∃ t, PairAt s.heap z.1 (.ref z.2.1) (.int z.2.2.2 t) := by
    intro z hzm
    obtain ⟨itz, rz, ⟨o, e, c, n, d⟩, _⟩ := I.tuple (hz z hzm).1
    cases rz with
    | cons r1 r2 => cases r2 with
      | cons r2 r3 => cases r3 with
        | nil =>
          obtain ⟨t, rfl⟩ := r2
          have r1 : _ = Value.ref z.2.1 := r1
          subst r1
          exact ⟨t, .inl ⟨o, e, c, n, d⟩⟩
  have hps : ∃ ps : List (List Int × Addr × Value), ps.map (·.1) = zs.map (fun z => z.2.2.1) ∧ ps.length = zs.length ∧ ∀ (i : Nat) (z : PrZ), zs[i]? = some z → ∃ t, ps[i]? = some (z.2.2.1, z.2.1, Value.int z.2.2.2 t) ∧ PairAt s.heap z.1 (.ref z.2.1) (.int z.2.2.2 t) := by
    clear q hn hl rv pl hzz eits hz r
    induction zs with
    | nil => exact ⟨[], rfl, rfl, fun i z h => by simp at h⟩
    | cons z zs ih =>
      obtain ⟨ps, e1, e2, e3⟩ := ih fun y hy => hp y (List.mem_cons_of_mem _ hy)
      obtain ⟨t, ht⟩ := hp z List.mem_cons_self
      refine ⟨(z.2.2.1, z.2.1, .int z.2.2.2 t) :: ps, by rw [List.map_cons, List.map_cons, e1], by rw [List.length_cons, List.length_cons, e2], fun i y hy => ?_⟩
      cases i with
      | zero => cases hy; exact ⟨t, rfl, ht⟩
      | succ i => exact e3 i y hy
  obtain ⟨ps, p1, p2, p3⟩ := hps
  have hfacts : ∀ x ∈ ps, (∃ z ∈ zs, (x.2.1, x.1) = (z.2.1, z.2.2.1)) ∧ ∃ i t, x.2.2 = Value.int i t := by
    intro x hx
    obtain ⟨i, hi⟩ := List.getElem?_of_mem hx
    have hlt : i < zs.length := by rw [← p2]; exact (List.getElem?_eq_some_iff.mp hi).1
    obtain ⟨t, e1, _⟩ := p3 i zs[i] (List.getElem?_eq_getElem hlt)
    rw [hi] at e1
    cases e1
    exact ⟨⟨_, List.getElem_mem hlt, rfl⟩, _, _, rfl⟩
  obtain ⟨ol, nl, el, cl, dl, datl⟩ := id pl
  let Ts : Nat → Addr := fun j => (zs[j]?.map (·.1)).getD 0
  have hitems : PairItems s.heap its.toArray Ts (ps.map fun x => (Value.ref x.2.1, x.2.2)) := by
    refine ⟨by rw [List.size_toArray, eits, List.length_map, List.length_map, p2], fun j k v hj => ?_⟩
    rw [List.getElem?_map] at hj
    obtain ⟨x, hx, e⟩ := Option.map_eq_some_iff.mp hj
    have hlt : j < zs.length := by rw [← p2]; exact (List.getElem?_eq_some_iff.mp hx).1
    obtain ⟨t, e1, e2⟩ := p3 j zs[j] (List.getElem?_eq_getElem hlt)
    rw [hx] at e1
    cases e1
    cases e
    have hT : Ts j = zs[j].1 := by show (zs[j]?.map (·.1)).getD 0 = _; rw [List.getElem?_eq_getElem hlt]; rfl
    rw [hT]
    refine ⟨?_, e2⟩
    rw [List.getElem?_toArray, eits, List.getElem?_map, List.getElem?_eq_getElem hlt]; rfl
  have hst : ∀ h', (∀ b o, s.heap.get? b = some o → h'.get? b = some o) → ∀ x ∈ ps, (tiK X.prog X.w).is h' x.1 x.2.1 := by
    intro h' hk x hx
    obtain ⟨⟨z, hzm, e⟩, _⟩ := hfacts x hx
    have e1 : x.2.1 = z.2.1 := congrArg Prod.fst e
    have e2 : x.1 = z.2.2.1 := congrArg Prod.snd e
    have := I.isT (hz z hzm).2
    rw [e1, e2]
    exact tupleKind_stays.stays (fun b o _ _ eb _ => hk b o eb) this
  have hm : (s.heap.objs.size == sysModules) = false := beq_eq_false_iff_ne.mpr (Nat.ne_of_gt I.big)
  refine call_dict_pairsH (knd := tiK X.prog X.w) (ps := ps) (PairArg.list l its.toArray Ts (ps.map fun x => (Value.ref x.2.1, x.2.2))) (I.ok.hd hc) (tupleKind_room_in1 (by show X.A.units + 1 + 1 < _; omega)) ⟨⟨ol, nl, el, cl, dl, datl⟩, hitems⟩ ⟨by rw [List.length_map], fun i key v hr => ?_⟩
    (fun h' hk x hx => hst h' (fun b o e => hk b o (Nat.ne_of_lt (Heap.lt_size e)) (fun z => nomatch z) e) x hx) (by rw [List.length_map, p2, sizeLine_eq]; omega) fun h' tk hd hk => ?_
  · have hr : (ps.map fun x => (Value.ref x.2.1, x.2.2))[i]? = some (key, v) := hr
    rw [List.getElem?_map] at hr
    obtain ⟨x, hx, e⟩ := Option.map_eq_some_iff.mp hr
    cases e
    exact ⟨x.1, x.2.1, hx, rfl⟩
  have kp : ∀ b u, s.heap.get? b = some u → h'.get? b = some u := fun b u e => hk b u (fun z => nomatch z) e
  have hn0 : H s.heap.objs.size = none := I.hok.fresh (Nat.le_refl _)
  have hall := all_all (P := fun k a => ∃ z ∈ zs, (a, k) = (z.2.1, z.2.2.1)) (V := fun v => ∃ i t, v = Value.int i t) (ps := ps) (xs := []) (fun _ h => nomatch h) hfacts
  have hlen := storedAllH_length ps []
  have hlen2 : (storedAllH [] ps).length ≤ sizeLine := by rw [sizeLine_eq]; rw [List.length_nil] at hlen; omega
  have hv : Vals (((storedAllH [] ps).map (·.2.2)).map intV) ((storedAllH [] ps).map (·.2.2)) := ints_vals fun u hu => by
    obtain ⟨x, hx, rfl⟩ := List.mem_map.mp hu
    exact (hall x hx).2
  have D := dic_back hm hlen2 hv hd
  refine ⟨.ref s.heap.objs.size, upd H s.heap.objs.size (DicO s.heap.objs.size ((storedAllH [] ps).map fun x => (x.2.1, x.1)) (((storedAllH [] ps).map (·.2.2)).map intV)), I.laid (t' := tk) kp (Nat.le_refl _) (dic_ok D), rfl, q _ _ _ hn0 (by simp) D.2.2.2.1 (fun k => ?_) fun k hk => ?_⟩
  · have e : ((storedAllH [] ps).map fun x => (x.2.1, x.1)).map (·.2) = (storedAllH [] ps).map (·.1) := by rw [List.map_map]; rfl
    rw [e, all_keys, p1]
    exact ⟨fun h => h.elim (fun h => nomatch h) id, .inr⟩
  · obtain ⟨x, hx, rfl⟩ := List.mem_map.mp hk
    exact (hall x hx).1
def rLenX (K : PySem.W.Frag) : List V → Hp → VK → Prop := fun vs H Q => ∃ (p : Addr) (ks : List (Addr × List Int)) (ws : List V), vs = [V.ref p] ∧ DicH K H p ks ws ∧ Q (.int (ks.length : Nat)) H
theorem cr_lenX : CallR X (.builtin "len") (rLenX X.K) := by
  intro pins s σ H xs us0 Q I r h
  obtain ⟨p, ks, ws, rfl, hd, q⟩ := h
  obtain ⟨us, rv, h1, h2, h3, dd⟩ := dic_raw I hd
  rw [Vals.ref1 r]
  have hl : (xs3 ks us).length = ks.length := xs3_len h3
  refine call_len_dictH h1 dd (by rw [hl]; rw [sizeLine_eq] at h2; omega) ?_
  rw [hl]
  exact ⟨.int ((ks.length : Nat) : Int), H, I.tok _, ⟨_, rfl⟩, q⟩
end
def pairsOf : List D → Option (List (List Int × Int))
  | [] => some []
  | .tup [.tup xs, .int v] :: ds => (intsOf xs).bind fun ns => (pairsOf ds).map ((ns, v) :: ·)
  | _ => none
def prD (q : List Int × Int) : D := .tup [tiD q.1, .int q.2]
theorem pairsOf_eq : ∀ {xs : List D} {qs : List (List Int × Int)}, pairsOf xs = some qs → xs = qs.map prD
  | [], qs, e => by
    rw [pairsOf] at e
    rw [← Option.some.inj e]; rfl
  | d :: ds, qs, e => by
    unfold pairsOf at e
    split at e
    · rename_i h; cases h
    · rename_i xs v ds' h
      cases h
      obtain ⟨ms, e1, e⟩ := Option.bind_eq_some_iff.mp e
      obtain ⟨nss, e2, e3⟩ := Option.map_eq_some_iff.mp e
      rw [← e3, pairsOf_eq e2, intsOf_eq e1]
      rfl
    · cases e
theorem pairsOf_map : ∀ qs : List (List Int × Int), pairsOf (qs.map prD) = some qs
  | [] => by rw [List.map_nil, pairsOf]
  | q :: qs => by
    have h1 : intsOf (q.1.map D.int) = some q.1 := Dn.ints_of q.1
    rw [List.map_cons]
    show (intsOf (q.1.map D.int)).bind (fun ns => (pairsOf (qs.map prD)).map ((ns, q.2) :: ·)) = _
    rw [h1, pairsOf_map qs]; rfl
def D.lenDict : D → T D
  | .lst _ xs => (T.ofO (pairsOf xs)).bind fun qs => if qs.length ≤ 100000 then .ret (.int (ddL (qs.map (·.1))).length) else .fail
  | _ => .fail
section
variable {K : PySem.W.Frag} {G : Gh} {X : Cx}
theorem pr_rep {Z : Zs} {H : Hp} {m : Fl} : ∀ {qs : List (List Int × Int)} {vs : List V} {F : List Addr}, RepL K Z H m (qs.map prD) vs F → ∃ zs : List PrZ, vs = (zs.map fun z => V.ref z.1) ∧ qs = zs.map (fun z => (z.2.2.1, z.2.2.2)) ∧ ∀ z ∈ zs, TupX K H z.1 [V.ref z.2.1, V.int z.2.2.2] ∧ TupX K H z.2.1 (z.2.2.1.map V.int)
  | [], vs, F, h => by
    obtain ⟨rfl, _⟩ := h.nil_inv
    exact ⟨[], rfl, rfl, fun p hp => nomatch hp⟩
  | q :: qs, vs, F, h => by
    cases h with
    | sc e _ => simp [prD, scV] at e
    | @tup _ p0 ws _ _ vs' _ e h1 h2 =>
      obtain ⟨zs, e1, e2, e3⟩ := pr_rep h2
      have h1 : RepL K Z H .frz [tiD q.1, .int q.2] ws [] := h1
      cases h1 with
      | sc e9 _ => exact nomatch (show (none : Option V) = some _ from e9)
      | @tup _ p1 us _ _ ws' _ f1 g1 g2 =>
        have hu := rep_ints g1 q.1 (intsOf_map q.1)
        subst hu
        cases g2 with
        | sc s1 s2 =>
          have s1 : some (V.int q.2) = some _ := s1
          cases s1
          obtain ⟨rfl, _⟩ := s2.nil_inv
          refine ⟨(p0, p1, q.1, q.2) :: zs, by rw [e1]; rfl, by rw [e2]; rfl, fun z hz => ?_⟩
          rcases List.mem_cons.mp hz with rfl | hz
          · exact ⟨e, f1⟩
          · exact e3 z hz
def rLenDict (K : PySem.W.Frag) : V → Hp → VK → Prop := fun x H Q => rDictOf K [x] H fun y H1 => rLenX K [y] H1 Q
theorem o_lenDict : Op1 K G (rLenDict K) D.lenDict := by
  intro Z H d1 v1 F1 Q t1 p h
  cases d1 <;> first | exact h.elim | skip
  rename_i f xs
  obtain ⟨qs, en, hh⟩ := mat_o h
  clear h
  obtain ⟨c1, hh⟩ := ite_holds hh
  obtain ⟨pa, ws, e1, s1, b1⟩ := lst_bor t1 (fun z hz => (p.own z hz).2) p.zf
  have ex := pairsOf_eq en
  subst ex
  obtain ⟨zs, ew, ez, ht⟩ := pr_rep b1
  subst ew
  refine ⟨pa, zs, by rw [e1], .of s1, fun z hz => ⟨(ht z hz).1.sq, (ht z hz).2.sq⟩, by rw [ez, List.length_map] at c1; exact c1, fun a ks vs na hl nd hm hin => ?_⟩
  have g := Go.new (o := DicO a ks vs) p.pot p.zf na
  refine ⟨a, ks, vs, rfl, ⟨upd_same, fun k hk => ?_⟩, ?_⟩
  · obtain ⟨z, hz, rfl⟩ := hin k hk
    exact (g.sqt (ht z hz).2).sq
  · have hlen : ks.length = (ddL (qs.map (·.1))).length := by
      have hp : (ks.map (·.2)).Perm (ddL (qs.map (·.1))) := perm_same nd (ddL_nodup _) fun k => by
        rw [ddL_mem, ez, List.map_map]
        exact hm k
      rw [← List.length_map (f := (·.2)) (as := ks), hp.length_eq]
    rw [hlen]
    have pr : Pre K G Z (upd H a (DicO a ks vs)) F1 := ⟨g.potB, g.zB, p.own, p.nd, p.gr.trans g.grow⟩
    have o := OpOut.int pr ((ddL (qs.map (·.1))).length : Nat)
    exact hh Z _ _ _ ⟨g.grow.trans o.grow, o.potB, o.zle, fun b z => (o.znew b z).imp id fun h => h.imp (fun h => g.grow.back (o.zB b z).2 h) id, o.zB, o.tmp, fun b hb => ⟨(o.own b hb).1.imp (fun h => g.grow.back (o.own b hb).2.2 h) id, (o.own b hb).2⟩, o.nd⟩
theorem ee_lenDict {e : Expr} {de : Env → T D} {p p2 pos pos2 : Pos} (hc : X.calm = true) (hu : X.A.units + 64 < cLine) (hg : Gl X "len") (hm : X.mg "len" = none) (hg2 : Gl X "dict") (hm2 : X.mg "dict" = none) (he : PE X e (RdE X.K G de))
    (hs : starEach [e] X.env = (false, eval e X.env) :: starEach [] X.env := by rfl) (hs2 : starEach [.Call (.Name "dict" p2) [e] [] pos2] X.env = (false, eval (.Call (.Name "dict" p2) [e] [] pos2) X.env) :: starEach [] X.env := by rfl)
    (hpl : (backTo pos2 (starEach [] X.env)).any (·.1) = false := by rfl) (hpl2 : (backTo pos (starEach [] X.env)).any (·.1) = false := by rfl) :
    PE X (.Call (.Name "len" p) [.Call (.Name "dict" p2) [e] [] pos2] [] pos) (RdE X.K G (un1 D.lenDict de)) :=
  PE.imp (pe_callB cr_lenX hg hm boot_len (pa_cons (pe_callTy (cr_dictOf hc hu) hg2 hm2 boot_dict (pa_cons he pa_nil hs) (by decide) (by decide) hs hpl) pa_nil hs2) (by decide) (by decide) hs2 hpl2) fun _ _ _ h => rd1 o_lenDict h
end
end Dn

set_option Elab.async false
set_option linter.all false
set_option maxRecDepth 100000
set_option maxHeartbeats 1000000
namespace Dn
open PySem PySem.Spec PyProof.Rows L2
/-! ## x = range(e); return [.. for y in x ..] -/
def RngO (p : Addr) (n : Int) : HO := .ext fun h => ∃ t u v, IsRange h p 0 n 1 t u v
theorem rng_ok {P : Program} {w : World} {H : Hp} {h : Heap} {p : Addr} {n : Int} {t u v : Tok} (r : IsRange h p 0 n 1 t u v) : ObjOk P w H h p (RngO p n) :=
  ⟨⟨t, u, v, r⟩, ⟨_, r⟩, fun h1 h2 q k => by
    obtain ⟨t, u, v, r⟩ := (show ∃ t u v, IsRange h1 p 0 n 1 t u v from q)
    exact (show ∃ t u v, IsRange h2 p 0 n 1 t u v from ⟨t, u, v, k _ r⟩)⟩
def tRng (ta : TA) : TE := fun σ H Q => ta σ H fun vs H1 => ∃ j : Int, vs = [.int j] ∧ ∀ p, H1 p = none → Q (.ref p) (upd H1 p (RngO p j))
def iRngV (i : Nat) : L2.TI := fun σ H R => ∃ (p : Addr) (j : Int), σ[i]? = some (some (.ref p)) ∧ H p = some (RngO p j) ∧ -(2 ^ 62) ≤ j ∧ j < 2 ^ 62 ∧ R (Itr 0 j.toNat) H
section
variable {X : Cx} {tg : Expr}
theorem pe_range1 {a : Expr} {ta : TA} {p pos : Pos} (hg : Gl X "range") (hm : X.mg "range" = none) (ha : PA X [a] ta) (hs : starEach [a] X.env = [(false, eval a X.env)] := by rfl) : PE X (.Call (.Name "range" p) [a] [] pos) (tRng ta) := by
  refine ⟨fun pins s σ H Q I h => ?_⟩
  refine Call_ (ld_blt I hg hm boot_range (PyProof.Rows.callWith_type1 (thn (ha.run pos pins s σ H _ I h) fun us s1 ⟨vs, H1, I1, r1, q1⟩ => ?_) hs rfl))
  obtain ⟨j, e, q⟩ := q1
  subst e
  cases r1 with
  | cons r rr =>
    cases rr
    obtain ⟨t, rfl⟩ := r
    refine call_range_1 ?_
    have hr : IsRange (s1.heap.push { cls := .type "range", data := .fields #[.int 0 s1.toks, .int j t, .int 1 (s1.toks + 1)] }) s1.heap.objs.size 0 j 1 s1.toks t (s1.toks + 1) := Heap.get?_push_size _ rfl
    exact ⟨.ref s1.heap.objs.size, upd H1 s1.heap.objs.size (RngO s1.heap.objs.size j), I1.laid (t' := s1.toks + 1 + 1) (fun _ _ q => Heap.get?_push_of_some _ q) (Nat.le_refl _) (rng_ok hr), rfl, q _ (I1.hok.fresh (Nat.le_refl _))⟩
theorem pi_rngV {x : Str} {i : Nat} {pos : Pos} (hi : IsSl X i x) : PI X tg (.Name x pos) (iRngV i) := by
  refine ⟨fun pins s σ H R I h => ?_⟩
  obtain ⟨p, j, e1, e2, h1, h2, q⟩ := h
  refine thn (hi.pe.run pins s σ H (fun v H1 => v = .ref p ∧ H1 = H) I ⟨.ref p, e1, rfl, rfl⟩) fun v s1 ⟨x, H1, I1, r1, ex, eH⟩ => ?_
  subst ex eH
  cases r1
  obtain ⟨t, u, w, hr⟩ := (show ∃ t u v, IsRange s1.heap p 0 j 1 t u v from (I1.hok p _ e2).1)
  refine wpAny_pyIter_range hr (small_one (by omega) (by omega) h1 h2) ?_
  refine ⟨s1.heap.objs.size, [s1.heap.objs.size], _, _, H1, rfl, I1.kept (t' := s1.toks) fun b o e => Heap.get?_push_of_some _ e, turn_range _ 0 j.toNat, ?_, fun b hb => ?_, q⟩
  · have e1 : (0 : Int) + ((0 : Nat) : Int) * 1 = 0 := by simp
    have e2 : (((j.toNat : Nat) : Int) - ((0 : Nat) : Int)) = Builtin.Range.rangeSize 0 j 1 := by rw [rangeSize_one]; split <;> omega
    show IsRangeIter _ _ ((0 : Int) + ((0 : Nat) : Int) * 1) (((j.toNat : Nat) : Int) - ((0 : Nat) : Int)) 1
    rw [e1, e2]
    exact Heap.get?_push_size _ rfl
  · have e : b = s1.heap.objs.size := by simpa using hb
    subst e
    exact I1.fpOk (Nat.le_refl _) (I1.hok.fresh (Nat.le_refl _))
end
section
variable {K : PySem.W.Frag} {G : Gh} {X : Cx} {σ : L2.St} {H : Hp} {dn : Ends}
def rgRetS (i : Nat) (da : Env → T D) (tg : D → Env → T Env) (cond : Env → T Bool) (elt : Env → T D) (vs : List Nat) : SD := fun env => (da env).bind fun d => match d with
  | .int n => if 0 ≤ n ∧ n ≤ 100000 ∧ i < env.length then retS (compE (fun _ => .ret (rgD 0 n)) tg cond elt vs) (env.set i none) else .fail
  | _ => .fail
theorem rdS_rgRet {i : Nat} {da : Env → T D} {sl vs : List Nat} {tg : D → Env → T Env} {cond : Env → T Bool} {elt : Env → T D} (hsl : ∀ i ∈ sl, i ∈ vs) (h : RdS K G (rgRetS i da tg cond elt vs) dn σ H) :
    tSeq (tAsg (tRng (RdA K G (argsN da args0))) (gName i)) (tRet (tLc (iRngV i) (RdG K G sl tg) (RdT K G cond) (RdE K G elt) vs)) dn σ H := by
  obtain ⟨Z, env, S, h⟩ := h
  refine ⟨Z, env, S, T.bind_holds ((T.holds_bind h).mono fun d h => ?_)⟩
  cases d <;> first | exact h.elim | skip
  rename_i n
  obtain ⟨⟨c1, c2, c3⟩, h⟩ := ite_holds h
  intro Z' vs' H' F o
  cases o.tmp with
  | cons t1 t2 =>
    cases t2
    refine ⟨n, by rw [int_val t1], fun p np => ?_⟩
    have g := o.go
    have S1 := S.go g
    obtain ⟨Fs, S1⟩ := S1
    have g2 : Go G Z' H' Z' (upd H' p (RngO p n)) := Go.new S1.pot S1.zf np
    have S2 := (S1.go g2).drop i
    have S3 := S2.slot (j := i) (by rw [List.getElem?_set_self c3]) (.ref p)
    have k : Keep K G Z H Z' (upd H' p (RngO p n)) := (g.trans g2).keep
    have hR : RdS K G (retS (compE (fun _ => .ret (rgD 0 n)) tg cond elt vs)) dn (σ.set i (some (.ref p))) (upd H' p (RngO p n)) := by
      refine ⟨Z', env.set i none, ⟨_, S3⟩, h.mono fun o h => ?_⟩
      cases o with
      | nx e => exact fun Z' σ' H' S' k' => h Z' σ' H' S' (k.trans k')
      | ct e => exact fun Z' σ' H' S' k' => h Z' σ' H' S' (k.trans k')
      | bk e => exact fun Z' σ' H' S' k' => h Z' σ' H' S' (k.trans k')
      | rt d => exact h
    obtain ⟨Z2, env2, S4, hS⟩ := rd_comp hsl (rdS_ret hR)
    obtain ⟨Fs4, S4'⟩ := id S4
    refine ⟨p, n, ?_, upd_same, by omega, by omega, ?_⟩
    · rw [List.getElem?_set_self (by rw [S1.len]; exact c3)]
    · have w := walk_rgC (K := K) (G := G) (Z := Z2) (H := upd H' p (RngO p n)) (a := 0) (b := n)
      rw [show (n - 0).toNat = n.toNat by omega] at w
      exact hS Z2 _ _ ⟨.refl S4'.pot S4'.zf, w⟩
end
section
variable {X : Cx} {G : Gh}
theorem ss_rgRet {sl : List Nat} (own : List (Str × Nat)) {x : Str} {xp rp cp ap : Pos} {xq : Pos} (i : Nat) {a elt tg : Expr} {ifs : List Expr} {scope : Scope} {pos rpos : Pos} {da : Env → T D} {dt : D → Env → T Env} {dc : Env → T Bool} {de : Env → T D}
    (hgR : Gl X "range") (hmR : X.mg "range" = none) (ha : PA X [a] (RdA X.K G (argsN da args0))) (hiS : IsSl X i x)
    (hc : X.calm = true) (hN : X.N.Nodup) (ok : BlkOk X.N X.env.scope scope own)
    (hg : ∀ (s : Shared) (H : Hp) (C : Addr) (cl : List (Str × Addr)) (fp : List Addr), PG (X.blk s H scope (compEnvC scope cl C X.env) fp) tg (RdG X.K G sl dt)) (ht : ∀ (s : Shared) (H : Hp) (C : Addr) (cl : List (Str × Addr)) (fp : List Addr), PTs (X.blk s H scope (compEnvC scope cl C X.env) fp) ifs (RdT X.K G dc))
    (he : ∀ (s : Shared) (H : Hp) (C : Addr) (cl : List (Str × Addr)) (fp : List Addr), PE (X.blk s H scope (compEnvC scope cl C X.env) fp) elt (RdE X.K G de)) (hsl : ∀ i ∈ sl, i ∈ own.map (·.2) := by decide) (hs : ∀ z, foldedSetIterable (.Name x xq) X.env z = pure z := by intro _; rfl)
    (hi : X.N[i]? = some x := by rfl) (hx : Loc X.env.scope x := by first | exact Or.inl rfl | exact Or.inr rfl) (hsw : swapsWith (.Call (.Name "range" rp) [a] [] cp) (some (.Name x xp)) ap.line X.env = pure false := by rfl)
    (hf : X.fn x = true ∨ X.env.scope.names.lookup x = some .local := by first | exact .inl rfl | exact .inr rfl) (hs1 : starEach [a] X.env = [(false, eval a X.env)] := by rfl) :
    PSs X [.Assign [.Name x xp] (.Call (.Name "range" rp) [a] [] cp) ap, .Return (some (.ListComp elt [⟨tg, .Name x xq, ifs, 0⟩] scope pos)) rpos] (RdS X.K G (rgRetS i da dt dc de (own.map (·.2)))) :=
  PSs.imp (pss_cons (ps_set hN hi hx (pe_range1 hgR hmR ha hs1) hsw hf) (pss_one (ps_ret (pe_lc hc hN (pi_rngV hiS) ok hg ht he hs)))) fun _ _ _ h => rdS_rgRet hsl h
end
end Dn

set_option Elab.async false
set_option linter.all false
set_option maxRecDepth 100000
set_option maxHeartbeats 1000000
namespace Dn
open PySem PySem.Spec PyProof.Rows L2
/-! ## x[k].append(None); x[m].append(None), x a local list of which nothing is asked any more -/
section
variable {K : PySem.W.Frag} {G : Gh} {X : Cx} {Z : Addr → Prop} {env : Env} {σ : L2.St} {H : Hp} {Fs : Nat → List Addr}
def poke2S (i k m : Nat) : SD := fun env => (T.ofO (ownAt env i)).bind fun xs => if (xs[k]?.map okL).getD false = true ∧ (xs[m]?.map okL).getD false = true then .ret (.nx (env.set i none)) else .fail
theorem rdS_poke2 {i k m : Nat} {dn : Ends} (h : RdS K G (poke2S i k m) dn σ H) : tSeq (tDrop (tBM K "list" rAppend (tOp (rIxL K) (tVar i) (tC (.int (k : Nat)))) (tCons (tC .non) tNil))) (tDrop (tBM K "list" rAppend (tOp (rIxL K) (tVar i) (tC (.int (m : Nat)))) (tCons (tC .non) tNil))) dn σ H := by
  obtain ⟨Z, env, S, h⟩ := h
  obtain ⟨xs, eo, h⟩ := mat_o h
  have ex := ownAt_some eo
  obtain ⟨Fs, S⟩ := S
  obtain ⟨p, ws, F', ev, hp, r, eF, _⟩ := S.mut ex
  obtain ⟨⟨c1, c2⟩, h⟩ := ite_holds h
  have hnd := S.nd i
  rw [eF] at hnd
  let f1 : Nat → List Addr := fun a => if a = i then [] else Fs a
  have S1 : StF K G Z (env.set i none) σ H f1 := S.drop i
  have hat : ∀ t, (xs[t]?.map okL).getD false = true → ∃ q us, t < ws.length ∧ ws[t]? = some (.ref q) ∧ q ≠ p ∧ Loose G Z f1 q ∧ H q = some (.lst us) ∧ us.length ≤ 1000000 := by
    intro t ho
    cases hd : xs[t]? with
    | none => rw [hd] at ho; cases ho
    | some d =>
      rw [hd] at ho
      have ho : okL d = true := ho
      obtain ⟨v, F1, hv, sub, r1⟩ := r.at hd
      have ht : t < ws.length := (List.getElem?_eq_some_iff.mp hv).1
      cases d with
      | lst f ys =>
        cases f with
        | own =>
          have hys : ys.length ≤ 1000000 := of_decide_eq_true ho
          generalize eF1 : F1 = F2 at r1
          cases r1 with
          | sc e1 _ => simp [scV] at e1
          | shr e0 e1 =>
            have : (some Fl.own) = some _ := e0
            cases this
            exact e1.elim
          | @own _ _ p' us _ _ _ F3 F4 e1 e2 h1 h2 =>
            cases h2
            have hin : p' ∈ F' := sub.subset (by rw [eF1]; exact List.mem_cons_self)
            have hmem : p' ∈ Fs i := by
              rw [eF, List.append_nil]
              exact List.mem_cons_of_mem _ hin
            have hne : p' ≠ p := fun e => by
              rw [e] at hin
              exact (List.nodup_cons.mp hnd).1 (by rw [List.append_nil]; exact hin)
            exact ⟨p', us, ht, hv, hne, S.loose hmem f1 fun _ => rfl, e2, by rw [← h1.len]; exact hys⟩
        | _ => cases ho
      | _ => cases ho
  obtain ⟨q1, us1, t1, w1, ne1, l1, e1, b1⟩ := hat k c1
  obtain ⟨q2, us2, t2, w2, ne2, l2, e2, b2⟩ := hat m c2
  have P1 := S1.pokeL (us := us1 ++ [.non]) l1 e1
  refine ⟨.ref p, ev, p, ws, ((k : Nat) : Int), .ref q1, rfl, rfl, .of hp, by rw [atI_nat ws k t1]; exact w1, .inl ⟨rfl, _, .inl (.of e1)⟩, q1, us1, .non, rfl, rfl, e1, by rw [sizeLine_eq]; omega, ?_⟩
  have hp2 : upd H q1 (.lst (us1 ++ [.non])) p = some (.lst ws) := by rw [upd_ne (Ne.symm ne1)]; exact hp
  have hq2 : ∃ us, upd H q1 (.lst (us1 ++ [.non])) q2 = some (.lst us) ∧ us.length ≤ 1000001 := by
    by_cases c : q2 = q1
    · rw [c]
      exact ⟨_, upd_same, by rw [List.length_append, List.length_singleton]; omega⟩
    · exact ⟨us2, by rw [upd_ne c]; exact e2, by omega⟩
  obtain ⟨us, e3, b3⟩ := hq2
  have P2 := P1.1.pokeL (us := us ++ [.non]) l2 e3
  refine ⟨.ref p, ev, p, ws, ((m : Nat) : Int), .ref q2, rfl, rfl, .of hp2, by rw [atI_nat ws m t2]; exact w2, .inl ⟨rfl, _, .inl (.of e3)⟩, q2, us, .non, rfl, rfl, e3, by rw [sizeLine_eq]; omega, ?_⟩
  exact h Z σ _ ⟨f1, P2.1⟩ (P1.2.trans P2.2)
section
variable {x : Str} {xp kp np apos cpos pos ip xp' kp' np' apos' cpos' pos' ip' : Pos} {j1 j2 j1' j2' : Nat} {rest : List Stmt} {s : SD}
theorem ss_poke2 (i k m : Nat) (hi : IsSl X i x) {kn kn' : Nat} (hr : PSs X rest (RdS X.K G s))
    (hs : swapsWith (.Call (.Attribute (.Subscript (.Name x xp) (.Constant (.int (k : Nat)) kn kp) ip) "append" apos) [.Constant .none j2 np] [] cpos) none pos.line X.env = pure false := by rfl)
    (h1 : attributeBase (.Subscript (.Name x xp) (.Constant (.int (k : Nat)) kn kp) ip) "append" X.env (eval (.Subscript (.Name x xp) (.Constant (.int (k : Nat)) kn kp) ip) X.env) = eval (.Subscript (.Name x xp) (.Constant (.int (k : Nat)) kn kp) ip) X.env := by rfl)
    (h2 : ((backTo cpos (starEach [.Constant .none j2 np] X.env)).all (fun x => !x.1) && (backToKw cpos (keywordEach [] X.env)).all (fun x => x.1.isSome) && decide ([Expr.Constant .none j2 np].length + ([] : List Keyword).length + (if ([] : List Keyword).isEmpty then 0 else 1) < 30)) = true := by rfl)
    (h3 : (apos.endLine == cpos.line) = true := by rfl) (h4 : starEach [.Constant .none j2 np] X.env = (false, eval (.Constant .none j2 np) X.env) :: starEach [] X.env := by rfl) (h5 : (backTo cpos (starEach [] X.env)).any (·.1) = false := by rfl)
    (hs' : swapsWith (.Call (.Attribute (.Subscript (.Name x xp') (.Constant (.int (m : Nat)) kn' kp') ip') "append" apos') [.Constant .none j2' np'] [] cpos') none pos'.line X.env = pure false := by rfl)
    (h1' : attributeBase (.Subscript (.Name x xp') (.Constant (.int (m : Nat)) kn' kp') ip') "append" X.env (eval (.Subscript (.Name x xp') (.Constant (.int (m : Nat)) kn' kp') ip') X.env) = eval (.Subscript (.Name x xp') (.Constant (.int (m : Nat)) kn' kp') ip') X.env := by rfl)
    (h2' : ((backTo cpos' (starEach [.Constant .none j2' np'] X.env)).all (fun x => !x.1) && (backToKw cpos' (keywordEach [] X.env)).all (fun x => x.1.isSome) && decide ([Expr.Constant .none j2' np'].length + ([] : List Keyword).length + (if ([] : List Keyword).isEmpty then 0 else 1) < 30)) = true := by rfl)
    (h3' : (apos'.endLine == cpos'.line) = true := by rfl) (h4' : starEach [.Constant .none j2' np'] X.env = (false, eval (.Constant .none j2' np') X.env) :: starEach [] X.env := by rfl) (h5' : (backTo cpos' (starEach [] X.env)).any (·.1) = false := by rfl) :
    PSs X (.Expr (.Call (.Attribute (.Subscript (.Name x xp) (.Constant (.int (k : Nat)) kn kp) ip) "append" apos) [.Constant .none j2 np] [] cpos) pos :: .Expr (.Call (.Attribute (.Subscript (.Name x xp') (.Constant (.int (m : Nat)) kn' kp') ip') "append" apos') [.Constant .none j2' np'] [] cpos') pos' :: rest) (RdS X.K G (seqS (poke2S i k m) s)) :=
  PSs.imp (pss_cons (ps_expr (pe_bm PySem.F.plainAttrs_list PySem.F.slot_list_append PySem.F.type_list_append mt_append (pe_ix ix_list hi.pe pe_int (fun _ _ => rfl)) (pa_cons pe_non pa_nil h4) h1 h2 h3 h4 h5) hs)
    (pss_cons (ps_expr (pe_bm PySem.F.plainAttrs_list PySem.F.slot_list_append PySem.F.type_list_append mt_append (pe_ix ix_list hi.pe pe_int (fun _ _ => rfl)) (pa_cons pe_non pa_nil h4') h1' h2' h3' h4' h5') hs') hr)) fun _ _ _ h => rdS_poke2 (rdS_seq h)
end
end
end Dn

set_option Elab.async false
set_option linter.all false
set_option maxRecDepth 100000
set_option maxHeartbeats 600000
namespace My
open PySem PySem.Spec PyProof.Rows L2 Dn
def top (i : Nat) : Stmt := PySem.Challenge.pw_pealworks_k24_whole_paths_and_work.main.body.getD i (.Pass ⟨0, 0, 0, 0⟩)
theorem bn_is_integer : ∀ (kV doc pm : Value) (an : Option Addr) (cdv ct : Value) (us : List Value), us.length = 1 → bindArgs (PySem.W.fnOf "is_integer" "is_integer" (defArgs (top 1)) (defBody (top 1)) (defScope (top 1)) .none kV doc pm an cdv ct) ⟨us, []⟩ = pure ((["value"] : List Str).zip us) := fun _ _ _ _ _ _ us hl => match us, hl with | [_], _ => rfl
theorem bn_is_within : ∀ (kV doc pm : Value) (an : Option Addr) (cdv ct : Value) (us : List Value), us.length = 3 → bindArgs (PySem.W.fnOf "is_within" "is_within" (defArgs (top 2)) (defBody (top 2)) (defScope (top 2)) .none kV doc pm an cdv ct) ⟨us, []⟩ = pure ((["value", "least", "most"] : List Str).zip us) := fun _ _ _ _ _ _ us hl => match us, hl with | [_, _, _], _ => rfl
theorem bn_is_tuple : ∀ (kV doc pm : Value) (an : Option Addr) (cdv ct : Value) (us : List Value), us.length = 2 → bindArgs (PySem.W.fnOf "is_tuple" "is_tuple" (defArgs (top 3)) (defBody (top 3)) (defScope (top 3)) .none kV doc pm an cdv ct) ⟨us, []⟩ = pure ((["value", "many"] : List Str).zip us) := fun _ _ _ _ _ _ us hl => match us, hl with | [_, _], _ => rfl
theorem bn_are_rising : ∀ (kV doc pm : Value) (an : Option Addr) (cdv ct : Value) (us : List Value), us.length = 1 → bindArgs (PySem.W.fnOf "are_rising" "are_rising" (defArgs (top 4)) (defBody (top 4)) (defScope (top 4)) .none kV doc pm an cdv ct) ⟨us, []⟩ = pure ((["values"] : List Str).zip us) := fun _ _ _ _ _ _ us hl => match us, hl with | [_], _ => rfl
theorem bn_is_lot : ∀ (kV doc pm : Value) (an : Option Addr) (cdv ct : Value) (us : List Value), us.length = 2 → bindArgs (PySem.W.fnOf "is_lot" "is_lot" (defArgs (top 5)) (defBody (top 5)) (defScope (top 5)) .none kV doc pm an cdv ct) ⟨us, []⟩ = pure ((["value", "most"] : List Str).zip us) := fun _ _ _ _ _ _ us hl => match us, hl with | [_, _], _ => rfl
theorem bn_rounds_of : ∀ (kV doc pm : Value) (an : Option Addr) (cdv ct : Value) (us : List Value), us.length = 1 → bindArgs (PySem.W.fnOf "rounds_of" "rounds_of" (defArgs (top 15)) (defBody (top 15)) (defScope (top 15)) .none kV doc pm an cdv ct) ⟨us, []⟩ = pure ((["bells"] : List Str).zip us) := fun _ _ _ _ _ _ us hl => match us, hl with | [_], _ => rfl
theorem bn_times : ∀ (kV doc pm : Value) (an : Option Addr) (cdv ct : Value) (us : List Value), us.length = 2 → bindArgs (PySem.W.fnOf "times" "times" (defArgs (top 16)) (defBody (top 16)) (defScope (top 16)) .none kV doc pm an cdv ct) ⟨us, []⟩ = pure ((["row", "other"] : List Str).zip us) := fun _ _ _ _ _ _ us hl => match us, hl with | [_, _], _ => rfl
theorem bn_inverse_of : ∀ (kV doc pm : Value) (an : Option Addr) (cdv ct : Value) (us : List Value), us.length = 1 → bindArgs (PySem.W.fnOf "inverse_of" "inverse_of" (defArgs (top 17)) (defBody (top 17)) (defScope (top 17)) .none kV doc pm an cdv ct) ⟨us, []⟩ = pure ((["row"] : List Str).zip us) := fun _ _ _ _ _ _ us hl => match us, hl with | [_], _ => rfl
theorem bn_order_of : ∀ (kV doc pm : Value) (an : Option Addr) (cdv ct : Value) (us : List Value), us.length = 1 → bindArgs (PySem.W.fnOf "order_of" "order_of" (defArgs (top 18)) (defBody (top 18)) (defScope (top 18)) .none kV doc pm an cdv ct) ⟨us, []⟩ = pure ((["row"] : List Str).zip us) := fun _ _ _ _ _ _ us hl => match us, hl with | [_], _ => rfl
theorem bn_pairs_of : ∀ (kV doc pm : Value) (an : Option Addr) (cdv ct : Value) (us : List Value), us.length = 2 → bindArgs (PySem.W.fnOf "pairs_of" "pairs_of" (defArgs (top 19)) (defBody (top 19)) (defScope (top 19)) .none kV doc pm an cdv ct) ⟨us, []⟩ = pure ((["bells", "change"] : List Str).zip us) := fun _ _ _ _ _ _ us hl => match us, hl with | [_, _], _ => rfl
theorem bn_change_row : ∀ (kV doc pm : Value) (an : Option Addr) (cdv ct : Value) (us : List Value), us.length = 2 → bindArgs (PySem.W.fnOf "change_row" "change_row" (defArgs (top 20)) (defBody (top 20)) (defScope (top 20)) .none kV doc pm an cdv ct) ⟨us, []⟩ = pure ((["bells", "change"] : List Str).zip us) := fun _ _ _ _ _ _ us hl => match us, hl with | [_, _], _ => rfl
theorem bn_is_bells : ∀ (kV doc pm : Value) (an : Option Addr) (cdv ct : Value) (us : List Value), us.length = 1 → bindArgs (PySem.W.fnOf "is_bells" "is_bells" (defArgs (top 21)) (defBody (top 21)) (defScope (top 21)) .none kV doc pm an cdv ct) ⟨us, []⟩ = pure ((["value"] : List Str).zip us) := fun _ _ _ _ _ _ us hl => match us, hl with | [_], _ => rfl
theorem bn_is_row_of : ∀ (kV doc pm : Value) (an : Option Addr) (cdv ct : Value) (us : List Value), us.length = 2 → bindArgs (PySem.W.fnOf "is_row_of" "is_row_of" (defArgs (top 22)) (defBody (top 22)) (defScope (top 22)) .none kV doc pm an cdv ct) ⟨us, []⟩ = pure ((["bells", "value"] : List Str).zip us) := fun _ _ _ _ _ _ us hl => match us, hl with | [_, _], _ => rfl
theorem bn_is_change_of : ∀ (kV doc pm : Value) (an : Option Addr) (cdv ct : Value) (us : List Value), us.length = 2 → bindArgs (PySem.W.fnOf "is_change_of" "is_change_of" (defArgs (top 23)) (defBody (top 23)) (defScope (top 23)) .none kV doc pm an cdv ct) ⟨us, []⟩ = pure ((["bells", "value"] : List Str).zip us) := fun _ _ _ _ _ _ us hl => match us, hl with | [_, _], _ => rfl
theorem bn_want_row : ∀ (kV doc pm : Value) (an : Option Addr) (cdv ct : Value) (us : List Value), us.length = 2 → bindArgs (PySem.W.fnOf "want_row" "want_row" (defArgs (top 24)) (defBody (top 24)) (defScope (top 24)) .none kV doc pm an cdv ct) ⟨us, []⟩ = pure ((["bells", "row"] : List Str).zip us) := fun _ _ _ _ _ _ us hl => match us, hl with | [_, _], _ => rfl
theorem bn_is_method_any : ∀ (kV doc pm : Value) (an : Option Addr) (cdv ct : Value) (us : List Value), us.length = 1 → bindArgs (PySem.W.fnOf "is_method_any" "is_method_any" (defArgs (top 29)) (defBody (top 29)) (defScope (top 29)) .none kV doc pm an cdv ct) ⟨us, []⟩ = pure ((["value"] : List Str).zip us) := fun _ _ _ _ _ _ us hl => match us, hl with | [_], _ => rfl
theorem bn_want_method : ∀ (kV doc pm : Value) (an : Option Addr) (cdv ct : Value) (us : List Value), us.length = 1 → bindArgs (PySem.W.fnOf "want_method" "want_method" (defArgs (top 30)) (defBody (top 30)) (defScope (top 30)) .none kV doc pm an cdv ct) ⟨us, []⟩ = pure ((["method"] : List Str).zip us) := fun _ _ _ _ _ _ us hl => match us, hl with | [_], _ => rfl
theorem bn_lead_of : ∀ (kV doc pm : Value) (an : Option Addr) (cdv ct : Value) (us : List Value), us.length = 1 → bindArgs (PySem.W.fnOf "lead_of" "lead_of" (defArgs (top 31)) (defBody (top 31)) (defScope (top 31)) .none kV doc pm an cdv ct) ⟨us, []⟩ = pure ((["method"] : List Str).zip us) := fun _ _ _ _ _ _ us hl => match us, hl with | [_], _ => rfl
theorem bn_turns_of : ∀ (kV doc pm : Value) (an : Option Addr) (cdv ct : Value) (us : List Value), us.length = 1 → bindArgs (PySem.W.fnOf "turns_of" "turns_of" (defArgs (top 32)) (defBody (top 32)) (defScope (top 32)) .none kV doc pm an cdv ct) ⟨us, []⟩ = pure ((["method"] : List Str).zip us) := fun _ _ _ _ _ _ us hl => match us, hl with | [_], _ => rfl
theorem bn_heads_of : ∀ (kV doc pm : Value) (an : Option Addr) (cdv ct : Value) (us : List Value), us.length = 2 → bindArgs (PySem.W.fnOf "heads_of" "heads_of" (defArgs (top 34)) (defBody (top 34)) (defScope (top 34)) .none kV doc pm an cdv ct) ⟨us, []⟩ = pure ((["method", "touch"] : List Str).zip us) := fun _ _ _ _ _ _ us hl => match us, hl with | [_, _], _ => rfl
theorem bn_course_of : ∀ (kV doc pm : Value) (an : Option Addr) (cdv ct : Value) (us : List Value), us.length = 2 → bindArgs (PySem.W.fnOf "course_of" "course_of" (defArgs (top 36)) (defBody (top 36)) (defScope (top 36)) .none kV doc pm an cdv ct) ⟨us, []⟩ = pure ((["method", "call"] : List Str).zip us) := fun _ _ _ _ _ _ us hl => match us, hl with | [_, _], _ => rfl
theorem bn_heads_told : ∀ (kV doc pm : Value) (an : Option Addr) (cdv ct : Value) (us : List Value), us.length = 2 → bindArgs (PySem.W.fnOf "heads_told" "heads_told" (defArgs (top 37)) (defBody (top 37)) (defScope (top 37)) .none kV doc pm an cdv ct) ⟨us, []⟩ = pure ((["method", "call"] : List Str).zip us) := fun _ _ _ _ _ _ us hl => match us, hl with | [_, _], _ => rfl
theorem bn_want_bell : ∀ (kV doc pm : Value) (an : Option Addr) (cdv ct : Value) (us : List Value), us.length = 2 → bindArgs (PySem.W.fnOf "want_bell" "want_bell" (defArgs (top 39)) (defBody (top 39)) (defScope (top 39)) .none kV doc pm an cdv ct) ⟨us, []⟩ = pure ((["method", "bell"] : List Str).zip us) := fun _ _ _ _ _ _ us hl => match us, hl with | [_, _], _ => rfl
theorem bn_want_place : ∀ (kV doc pm : Value) (an : Option Addr) (cdv ct : Value) (us : List Value), us.length = 2 → bindArgs (PySem.W.fnOf "want_place" "want_place" (defArgs (top 40)) (defBody (top 40)) (defScope (top 40)) .none kV doc pm an cdv ct) ⟨us, []⟩ = pure ((["method", "place"] : List Str).zip us) := fun _ _ _ _ _ _ us hl => match us, hl with | [_, _], _ => rfl
theorem bn_path_of : ∀ (kV doc pm : Value) (an : Option Addr) (cdv ct : Value) (us : List Value), us.length = 2 → bindArgs (PySem.W.fnOf "path_of" "path_of" (defArgs (top 41)) (defBody (top 41)) (defScope (top 41)) .none kV doc pm an cdv ct) ⟨us, []⟩ = pure ((["method", "place"] : List Str).zip us) := fun _ _ _ _ _ _ us hl => match us, hl with | [_, _], _ => rfl
theorem bn_work_of : ∀ (kV doc pm : Value) (an : Option Addr) (cdv ct : Value) (us : List Value), us.length = 2 → bindArgs (PySem.W.fnOf "work_of" "work_of" (defArgs (top 42)) (defBody (top 42)) (defScope (top 42)) .none kV doc pm an cdv ct) ⟨us, []⟩ = pure ((["method", "bell"] : List Str).zip us) := fun _ _ _ _ _ _ us hl => match us, hl with | [_, _], _ => rfl
theorem bn_order_places : ∀ (kV doc pm : Value) (an : Option Addr) (cdv ct : Value) (us : List Value), us.length = 2 → bindArgs (PySem.W.fnOf "order_places" "order_places" (defArgs (top 43)) (defBody (top 43)) (defScope (top 43)) .none kV doc pm an cdv ct) ⟨us, []⟩ = pure ((["method", "bell"] : List Str).zip us) := fun _ _ _ _ _ _ us hl => match us, hl with | [_, _], _ => rfl
theorem bn_path : ∀ (kV doc pm : Value) (an : Option Addr) (cdv ct : Value) (us : List Value), us.length = 2 → bindArgs (PySem.W.fnOf "path" "path" (defArgs (top 44)) (defBody (top 44)) (defScope (top 44)) .none kV doc pm an cdv ct) ⟨us, []⟩ = pure ((["method", "place"] : List Str).zip us) := fun _ _ _ _ _ _ us hl => match us, hl with | [_, _], _ => rfl
theorem bn_path_from : ∀ (kV doc pm : Value) (an : Option Addr) (cdv ct : Value) (us : List Value), us.length = 3 → bindArgs (PySem.W.fnOf "path_from" "path_from" (defArgs (top 45)) (defBody (top 45)) (defScope (top 45)) .none kV doc pm an cdv ct) ⟨us, []⟩ = pure ((["method", "row", "bell"] : List Str).zip us) := fun _ _ _ _ _ _ us hl => match us, hl with | [_, _, _], _ => rfl
theorem bn_work : ∀ (kV doc pm : Value) (an : Option Addr) (cdv ct : Value) (us : List Value), us.length = 2 → bindArgs (PySem.W.fnOf "work" "work" (defArgs (top 46)) (defBody (top 46)) (defScope (top 46)) .none kV doc pm an cdv ct) ⟨us, []⟩ = pure ((["method", "bell"] : List Str).zip us) := fun _ _ _ _ _ _ us hl => match us, hl with | [_, _], _ => rfl
theorem bn_lead_places : ∀ (kV doc pm : Value) (an : Option Addr) (cdv ct : Value) (us : List Value), us.length = 2 → bindArgs (PySem.W.fnOf "lead_places" "lead_places" (defArgs (top 47)) (defBody (top 47)) (defScope (top 47)) .none kV doc pm an cdv ct) ⟨us, []⟩ = pure ((["method", "bell"] : List Str).zip us) := fun _ _ _ _ _ _ us hl => match us, hl with | [_, _], _ => rfl
theorem bn_same_work : ∀ (kV doc pm : Value) (an : Option Addr) (cdv ct : Value) (us : List Value), us.length = 1 → bindArgs (PySem.W.fnOf "same_work" "same_work" (defArgs (top 48)) (defBody (top 48)) (defScope (top 48)) .none kV doc pm an cdv ct) ⟨us, []⟩ = pure ((["method"] : List Str).zip us) := fun _ _ _ _ _ _ us hl => match us, hl with | [_], _ => rfl
theorem bn_leads_behind : ∀ (kV doc pm : Value) (an : Option Addr) (cdv ct : Value) (us : List Value), us.length = 3 → bindArgs (PySem.W.fnOf "leads_behind" "leads_behind" (defArgs (top 49)) (defBody (top 49)) (defScope (top 49)) .none kV doc pm an cdv ct) ⟨us, []⟩ = pure ((["method", "bell", "further"] : List Str).zip us) := fun _ _ _ _ _ _ us hl => match us, hl with | [_, _, _], _ => rfl
theorem bn_crossings : ∀ (kV doc pm : Value) (an : Option Addr) (cdv ct : Value) (us : List Value), us.length = 3 → bindArgs (PySem.W.fnOf "crossings" "crossings" (defArgs (top 50)) (defBody (top 50)) (defScope (top 50)) .none kV doc pm an cdv ct) ⟨us, []⟩ = pure ((["method", "bell", "further"] : List Str).zip us) := fun _ _ _ _ _ _ us hl => match us, hl with | [_, _, _], _ => rfl
theorem bn__law_pot : ∀ (kV doc pm : Value) (an : Option Addr) (cdv ct : Value) (us : List Value), us.length = 2 → bindArgs (PySem.W.fnOf "_law_pot" "_law_pot" (defArgs (top 52)) (defBody (top 52)) (defScope (top 52)) .none kV doc pm an cdv ct) ⟨us, []⟩ = pure ((["script", "k"] : List Str).zip us) := fun _ _ _ _ _ _ us hl => match us, hl with | [_, _], _ => rfl
theorem bn__law_draw : ∀ (kV doc pm : Value) (an : Option Addr) (cdv ct : Value) (us : List Value), us.length = 2 → bindArgs (PySem.W.fnOf "_law_draw" "_law_draw" (defArgs (top 53)) (defBody (top 53)) (defScope (top 53)) .none kV doc pm an cdv ct) ⟨us, []⟩ = pure ((["pot", "size"] : List Str).zip us) := fun _ _ _ _ _ _ us hl => match us, hl with | [_, _], _ => rfl
theorem bn__law_pick : ∀ (kV doc pm : Value) (an : Option Addr) (cdv ct : Value) (us : List Value), us.length = 2 → bindArgs (PySem.W.fnOf "_law_pick" "_law_pick" (defArgs (top 54)) (defBody (top 54)) (defScope (top 54)) .none kV doc pm an cdv ct) ⟨us, []⟩ = pure ((["pot", "some"] : List Str).zip us) := fun _ _ _ _ _ _ us hl => match us, hl with | [_, _], _ => rfl
theorem bn__law_mixed : ∀ (kV doc pm : Value) (an : Option Addr) (cdv ct : Value) (us : List Value), us.length = 2 → bindArgs (PySem.W.fnOf "_law_mixed" "_law_mixed" (defArgs (top 55)) (defBody (top 55)) (defScope (top 55)) .none kV doc pm an cdv ct) ⟨us, []⟩ = pure ((["pot", "some"] : List Str).zip us) := fun _ _ _ _ _ _ us hl => match us, hl with | [_, _], _ => rfl
theorem bn__law_changes : ∀ (kV doc pm : Value) (an : Option Addr) (cdv ct : Value) (us : List Value), us.length = 1 → bindArgs (PySem.W.fnOf "_law_changes" "_law_changes" (defArgs (top 56)) (defBody (top 56)) (defScope (top 56)) .none kV doc pm an cdv ct) ⟨us, []⟩ = pure ((["bells"] : List Str).zip us) := fun _ _ _ _ _ _ us hl => match us, hl with | [_], _ => rfl
theorem bn__law_changed : ∀ (kV doc pm : Value) (an : Option Addr) (cdv ct : Value) (us : List Value), us.length = 2 → bindArgs (PySem.W.fnOf "_law_changed" "_law_changed" (defArgs (top 57)) (defBody (top 57)) (defScope (top 57)) .none kV doc pm an cdv ct) ⟨us, []⟩ = pure ((["row", "change"] : List Str).zip us) := fun _ _ _ _ _ _ us hl => match us, hl with | [_, _], _ => rfl
theorem bn__law_method : ∀ (kV doc pm : Value) (an : Option Addr) (cdv ct : Value) (us : List Value), us.length = 4 → bindArgs (PySem.W.fnOf "_law_method" "_law_method" (defArgs (top 58)) (defBody (top 58)) (defScope (top 58)) .none kV doc pm an cdv ct) ⟨us, []⟩ = pure ((["pot", "least", "most", "long"] : List Str).zip us) := fun _ _ _ _ _ _ us hl => match us, hl with | [_, _, _, _], _ => rfl
theorem bn__law_lead : ∀ (kV doc pm : Value) (an : Option Addr) (cdv ct : Value) (us : List Value), us.length = 3 → bindArgs (PySem.W.fnOf "_law_lead" "_law_lead" (defArgs (top 59)) (defBody (top 59)) (defScope (top 59)) .none kV doc pm an cdv ct) ⟨us, []⟩ = pure ((["method", "head", "call"] : List Str).zip us) := fun _ _ _ _ _ _ us hl => match us, hl with | [_, _, _], _ => rfl
theorem bn__law_course : ∀ (kV doc pm : Value) (an : Option Addr) (cdv ct : Value) (us : List Value), us.length = 2 → bindArgs (PySem.W.fnOf "_law_course" "_law_course" (defArgs (top 60)) (defBody (top 60)) (defScope (top 60)) .none kV doc pm an cdv ct) ⟨us, []⟩ = pure ((["method", "call"] : List Str).zip us) := fun _ _ _ _ _ _ us hl => match us, hl with | [_, _], _ => rfl
theorem bn__law_bells_right : ∀ (kV doc pm : Value) (an : Option Addr) (cdv ct : Value) (us : List Value), us.length = 4 → bindArgs (PySem.W.fnOf "_law_bells_right" "_law_bells_right" (defArgs (top 61)) (defBody (top 61)) (defScope (top 61)) .none kV doc pm an cdv ct) ⟨us, []⟩ = pure ((["pot", "method", "rows", "heads"] : List Str).zip us) := fun _ _ _ _ _ _ us hl => match us, hl with | [_, _, _, _], _ => rfl
theorem bn__law_right : ∀ (kV doc pm : Value) (an : Option Addr) (cdv ct : Value) (us : List Value), us.length = 3 → bindArgs (PySem.W.fnOf "_law_right" "_law_right" (defArgs (top 62)) (defBody (top 62)) (defScope (top 62)) .none kV doc pm an cdv ct) ⟨us, []⟩ = pure ((["pot", "least", "most"] : List Str).zip us) := fun _ _ _ _ _ _ us hl => match us, hl with | [_, _, _], _ => rfl
def f__law_draw : FD := fDraw
/-! is_integer -/
def s_is_integer : SD := (retS (andE (un1 (isiX ["int"]) (var 0)) (notE (un1 (isiX ["bool"]) (var 0)))))
def f_is_integer : FD := runF 1 s_is_integer
theorem sc_is_integer : FnScope ["value"] ["value"] (defScope (top 1)) := ⟨rfl, rfl, rfl, by decide +kernel, rfl, by decide +kernel, by decide +kernel⟩
/-! is_tuple -/
def s_is_tuple : SD := (retS (andE (un1 (isiX ["tuple"]) (var 0)) (bin2 D.eq (callN (one D.len) (argsN (var 0) args0)) (var 1))))
def f_is_tuple : FD := runF 2 s_is_tuple
theorem sc_is_tuple : FnScope ["value", "many"] ["value", "many"] (defScope (top 3)) := ⟨rfl, rfl, rfl, by decide +kernel, rfl, by decide +kernel, by decide +kernel⟩
/-! are_rising -/
def s_are_rising : SD := (retS (callN (one D.all) (argsN (compE (zipE true (var 0) (cutE (var 0) (partE (con (.int 1))) noP)) (tgT 2 (tgCons (tgN 1) (tgCons (tgN 2) tgNil))) yesT (bin2 D.lt (var 1) (var 2)) [1, 2]) args0)))
def f_are_rising : FD := runF 3 s_are_rising
theorem sc_are_rising : FnScope ["values", "near", "far"] ["values"] (defScope (top 4)) := ⟨rfl, rfl, rfl, by decide +kernel, rfl, by decide +kernel, by decide +kernel⟩
/-! rounds_of -/
def s_rounds_of : SD := (retS (un1 tupRg1 (var 0)))
def f_rounds_of : FD := runF 1 s_rounds_of
theorem sc_rounds_of : FnScope ["bells"] ["bells"] (defScope (top 15)) := ⟨rfl, rfl, rfl, by decide +kernel, rfl, by decide +kernel, by decide +kernel⟩
/-! times -/
def s_times : SD := (retS (callN (one D.toTup) (argsN (compE (srcE true (var 1)) (tgN 2) yesT (bin2 D.ix (var 0) (var 2)) [2]) args0)))
def f_times : FD := runF 3 s_times
theorem sc_times : FnScope ["row", "other", "place"] ["row", "other"] (defScope (top 16)) := ⟨rfl, rfl, rfl, by decide +kernel, rfl, by decide +kernel, by decide +kernel⟩
/-! inverse_of -/
def s_inverse_of : SD := (seqS (setS 1 (bin2 D.mulT (callN lstD (argsN (con (.int 0)) args0)) (callN (one D.len) (argsN (var 0) args0)))) (seqS (forS (enumE false (var 0)) (tgT 2 (tgCons (tgN 2) (tgCons (tgN 3) tgNil))) (setItemS 1 (var 3) (var 2))) (retS (callN (one D.toTup) (argsN (var 1) args0)))))
def f_inverse_of : FD := runF 4 s_inverse_of
theorem sc_inverse_of : FnScope ["row", "found", "place", "bell"] ["row"] (defScope (top 17)) := ⟨rfl, rfl, rfl, by decide +kernel, rfl, by decide +kernel, by decide +kernel⟩
/-! pairs_of -/
def s_pairs_of : SD := (seqS (parS [2, 3] (argsN (callN lstD args0) (argsN (con (.int 0)) args0))) (seqS (whileS (testE (bin2 D.lt (var 3) (var 0))) (ifS (testE (bin2 (inList false) (var 3) (var 1))) (setS 3 (bin2 D.add (var 3) (con (.int 1)))) (ifS (andT (testE (bin2 D.lt (bin2 D.add (var 3) (con (.int 1))) (var 0))) (testE (bin2 (inList true) (bin2 D.add (var 3) (con (.int 1))) (var 1)))) (seqS (appendS 2 (var 3)) (setS 3 (bin2 D.add (var 3) (con (.int 2))))) (retS (con .non)))) 1000) (retV 2)))
def f_pairs_of : FD := runF 4 s_pairs_of
theorem sc_pairs_of : FnScope ["bells", "change", "found", "place"] ["bells", "change"] (defScope (top 19)) := ⟨rfl, rfl, rfl, by decide +kernel, rfl, by decide +kernel, by decide +kernel⟩
/-! _law_changes -/
def s__law_changes : SD := (seqS (setS 1 (callN lstD (argsN (callN tupD (argsN (callN tupD args0) (argsN (con (.int 0)) args0))) args0))) (seqS (forS (srcR (rg1 (var 0))) (tgN 2) (seqS (setS 3 (callN lstD args0)) (seqS (seqS (frzS 1) (forS (srcE false (var 1)) (tgT 2 (tgCons (tgN 4) (tgCons (tgN 5) tgNil))) (ifS (testE (bin2 D.lt (var 5) (var 0))) (seqS (appendS 3 (callN tupD (argsN (bin2 D.add (var 4) (callN tupD (argsN (var 5) args0))) (argsN (bin2 D.add (var 5) (con (.int 1))) args0)))) (extendS 3 (ifE (testE (bin2 D.le (bin2 D.add (var 5) (con (.int 2))) (var 0))) (callN lstD (argsN (callN tupD (argsN (var 4) (argsN (bin2 D.add (var 5) (con (.int 2))) args0))) args0)) (callN lstD args0)))) (appendS 3 (callN tupD (argsN (var 4) (argsN (var 5) args0))))))) (seqS (frzS 3) (setS 1 (var 3)))))) (retS (un1 D.sortSetO (compE (srcE true (var 1)) (tgT 2 (tgCons (tgN 4) (tgCons (tgN 5) tgNil))) (andT (testE (bin2 D.eq (var 5) (var 0))) (testE (bin2 D.lt (callN (one D.len) (argsN (var 4) args0)) (var 0)))) (var 4) [4, 5])))))
def f__law_changes : FD := runF 6 s__law_changes
theorem sc__law_changes : FnScope ["bells", "found", "turn", "longer", "made", "place"] ["bells"] (defScope (top 56)) := ⟨rfl, rfl, rfl, by decide +kernel, rfl, by decide +kernel, by decide +kernel⟩
/-! _law_changed -/
def s__law_changed : SD := (seqS (parS [2, 3] (argsN (callN (one D.toList) (argsN (var 0) args0)) (argsN (con (.int 0)) args0))) (seqS (whileS (testE (bin2 D.lt (var 3) (callN (one D.len) (argsN (var 0) args0)))) (ifS (testE (bin2 (inList false) (var 3) (var 1))) (setS 3 (bin2 D.add (var 3) (con (.int 1)))) (seqS (set2S 2 2 (var 3) (bin2 D.add (var 3) (con (.int 1))) (bin2 D.ix (var 0) (bin2 D.add (var 3) (con (.int 1)))) (bin2 D.ix (var 0) (var 3))) (setS 3 (bin2 D.add (var 3) (con (.int 2)))))) 1000) (retS (callN (one D.toTup) (argsN (var 2) args0)))))
def f__law_changed : FD := runF 4 s__law_changed
theorem sc__law_changed : FnScope ["row", "change", "found", "place"] ["row", "change"] (defScope (top 57)) := ⟨rfl, rfl, rfl, by decide +kernel, rfl, by decide +kernel, by decide +kernel⟩
/-! is_within -/
def s_is_within : SD := (retS (andE (callN (callF 1 f_is_integer) (argsN (var 0) args0)) (chainE D.le D.le (var 1) (var 0) (var 2))))
def f_is_within : FD := runF 3 s_is_within
theorem sc_is_within : FnScope ["value", "least", "most"] ["value", "least", "most"] (defScope (top 2)) := ⟨rfl, rfl, rfl, by decide +kernel, rfl, by decide +kernel, by decide +kernel⟩
/-! order_of -/
def s_order_of : SD := (seqS (parS [1, 2, 3] (argsN (con (.int 1)) (argsN (var 0) (argsN (callN (callF 1 f_rounds_of) (argsN (callN (one D.len) (argsN (var 0) args0)) args0)) args0)))) (seqS (whileS (testE (bin2 D.ne (var 2) (var 3))) (parS [1, 2] (argsN (bin2 D.add (var 1) (con (.int 1))) (argsN (callN (callF 2 f_times) (argsN (var 2) (argsN (var 0) args0))) args0))) 1000) (retV 1)))
def f_order_of : FD := runF 4 s_order_of
theorem sc_order_of : FnScope ["row", "found", "here", "rounds"] ["row"] (defScope (top 18)) := ⟨rfl, rfl, rfl, by decide +kernel, rfl, by decide +kernel, by decide +kernel⟩
/-! change_row -/
def s_change_row : SD := (seqS (setS 2 (un1 lstRg1 (var 0))) (seqS (forS (srcE false (callN (callF 2 f_pairs_of) (argsN (var 0) (argsN (var 1) args0)))) (tgN 3) (set2S 2 2 (var 3) (bin2 D.add (var 3) (con (.int 1))) (bin2 D.add (var 3) (con (.int 1))) (var 3))) (retS (callN (one D.toTup) (argsN (var 2) args0)))))
def f_change_row : FD := runF 4 s_change_row
theorem sc_change_row : FnScope ["bells", "change", "found", "place"] ["bells", "change"] (defScope (top 20)) := ⟨rfl, rfl, rfl, by decide +kernel, rfl, by decide +kernel, by decide +kernel⟩
/-! _law_pick -/
def s__law_pick : SD := (retS (bin2 D.ix (var 1) (callN (callF 2 f__law_draw) (argsN (var 0) (argsN (callN (one D.len) (argsN (var 1) args0)) args0)))))
def f__law_pick : FD := runF 2 s__law_pick
theorem sc__law_pick : FnScope ["pot", "some"] ["pot", "some"] (defScope (top 54)) := ⟨rfl, rfl, rfl, by decide +kernel, rfl, by decide +kernel, by decide +kernel⟩
/-! _law_mixed -/
def s__law_mixed : SD := (seqS (parS [2, 3] (argsN (callN (one D.toList) (argsN (var 1) args0)) (argsN (callN lstD args0) args0))) (seqS (whileS (testE (bin2 D.ne (var 2) (callN lstD args0))) (appendXS 3 (popE 2 (callN (callF 2 f__law_draw) (argsN (var 0) (argsN (callN (one D.len) (argsN (var 2) args0)) args0))))) 1000) (retV 3)))
def f__law_mixed : FD := runF 4 s__law_mixed
theorem sc__law_mixed : FnScope ["pot", "some", "left", "found"] ["pot", "some"] (defScope (top 55)) := ⟨rfl, rfl, rfl, by decide +kernel, rfl, by decide +kernel, by decide +kernel⟩
/-! _law_lead -/
def s__law_lead : SD := (seqS (parS [3, 4] (argsN (callN lstD args0) (argsN (var 1) args0))) (seqS (setS 5 (bin2 D.ix (bin2 D.add (cutE (bin2 D.ix (var 0) (con (.int 2))) (partE (un1 D.neg (con (.int 1)))) noP) (bin2 D.ix (var 0) (con (.int 3)))) (var 2))) (seqS (forS (srcE false (bin2 D.add (cutE (bin2 D.ix (var 0) (con (.int 2))) noP (partE (un1 D.neg (con (.int 1))))) (callN tupD (argsN (var 5) args0)))) (tgN 6) (seqS (appendS 3 (var 4)) (setS 4 (callN (callF 2 f__law_changed) (argsN (var 4) (argsN (var 6) args0)))))) (seqS (frzS 4) (seqS (frzS 3) (retS (callN tupD (argsN (var 3) (argsN (var 4) args0)))))))))
def f__law_lead : FD := runF 7 s__law_lead
theorem sc__law_lead : FnScope ["method", "head", "call", "found", "here", "last", "change"] ["method", "head", "call"] (defScope (top 59)) := ⟨rfl, rfl, rfl, by decide +kernel, rfl, by decide +kernel, by decide +kernel⟩
/-! is_lot -/
def s_is_lot : SD := (retS (andE (un1 (isiX ["tuple"]) (var 0)) (andE (callN (one D.all) (argsN (compE (srcE true (var 0)) (tgN 2) yesT (callN (callF 3 f_is_within) (argsN (var 2) (argsN (con (.int 0)) (argsN (var 1) args0)))) [2]) args0)) (callN (callF 1 f_are_rising) (argsN (var 0) args0)))))
def f_is_lot : FD := runF 3 s_is_lot
theorem sc_is_lot : FnScope ["value", "most", "one"] ["value", "most"] (defScope (top 5)) := ⟨rfl, rfl, rfl, by decide +kernel, rfl, by decide +kernel, by decide +kernel⟩
/-! is_bells -/
def s_is_bells : SD := (retS (callN (callF 3 f_is_within) (argsN (var 0) (argsN (con (.int 3)) (argsN (con (.int 6)) args0)))))
def f_is_bells : FD := runF 1 s_is_bells
theorem sc_is_bells : FnScope ["value"] ["value"] (defScope (top 21)) := ⟨rfl, rfl, rfl, by decide +kernel, rfl, by decide +kernel, by decide +kernel⟩
/-! is_row_of -/
def s_is_row_of : SD := (seqS (ifS (orT (notT (testE (un1 (isiX ["tuple"]) (var 1)))) (orT (testE (bin2 D.ne (callN (one D.len) (argsN (var 1) args0)) (var 0))) (notT (testE (callN (one D.all) (argsN (compE (srcE true (var 1)) (tgN 2) yesT (callN (callF 3 f_is_within) (argsN (var 2) (argsN (con (.int 0)) (argsN (bin2 D.sub (var 0) (con (.int 1))) args0)))) [2]) args0)))))) (retS (con (.bl false))) skipS) (retS (bin2 D.eq (un1 D.lenSetA (var 1)) (var 0))))
def f_is_row_of : FD := runF 3 s_is_row_of
theorem sc_is_row_of : FnScope ["bells", "value", "one"] ["bells", "value"] (defScope (top 22)) := ⟨rfl, rfl, rfl, by decide +kernel, rfl, by decide +kernel, by decide +kernel⟩
/-! lead_of -/
def s_lead_of : SD := (seqS (setS 1 (callN lstD (argsN (callN (callF 1 f_rounds_of) (argsN (bin2 D.ix (var 0) (con (.int 1))) args0)) args0))) (seqS (forS (srcE false (cutE (bin2 D.ix (var 0) (con (.int 2))) noP (partE (un1 D.neg (con (.int 1)))))) (tgN 2) (appendS 1 (callN (callF 2 f_times) (argsN (bin2 D.ix (var 1) (un1 D.neg (con (.int 1)))) (argsN (callN (callF 2 f_change_row) (argsN (bin2 D.ix (var 0) (con (.int 1))) (argsN (var 2) args0))) args0))))) (retV 1)))
def f_lead_of : FD := runF 3 s_lead_of
theorem sc_lead_of : FnScope ["method", "found", "change"] ["method"] (defScope (top 31)) := ⟨rfl, rfl, rfl, by decide +kernel, rfl, by decide +kernel, by decide +kernel⟩
/-! want_bell -/
def s_want_bell : SD := (ifS (notT (testE (callN (callF 3 f_is_within) (argsN (var 1) (argsN (con (.int 0)) (argsN (bin2 D.sub (bin2 D.ix (var 0) (con (.int 1))) (con (.int 1))) args0)))))) failS skipS)
def f_want_bell : FD := runF 2 s_want_bell
theorem sc_want_bell : FnScope ["method", "bell"] ["method", "bell"] (defScope (top 39)) := ⟨rfl, rfl, rfl, by decide +kernel, rfl, by decide +kernel, by decide +kernel⟩
/-! want_place -/
def s_want_place : SD := (ifS (notT (testE (callN (callF 3 f_is_within) (argsN (var 1) (argsN (con (.int 0)) (argsN (bin2 D.sub (bin2 D.ix (var 0) (con (.int 1))) (con (.int 1))) args0)))))) failS skipS)
def f_want_place : FD := runF 2 s_want_place
theorem sc_want_place : FnScope ["method", "place"] ["method", "place"] (defScope (top 40)) := ⟨rfl, rfl, rfl, by decide +kernel, rfl, by decide +kernel, by decide +kernel⟩
/-! _law_method -/
def s__law_method : SD := (seqS (setS 4 (bin2 D.add (var 1) (callN (callF 2 f__law_draw) (argsN (var 0) (argsN (bin2 D.add (bin2 D.sub (var 2) (var 1)) (con (.int 1))) args0))))) (seqS (parS [5, 6] (argsN (callN (callF 1 f__law_changes) (argsN (var 4) args0)) (argsN (callN (callF 2 f__law_draw) (argsN (var 0) (argsN (con (.int 4)) args0))) args0))) (seqS (setS 7 (bin2 D.add (con (.int 1)) (callN (callF 2 f__law_draw) (argsN (var 0) (argsN (var 3) args0))))) (seqS (ifS (testE (bin2 D.eq (var 6) (con (.int 0)))) (seqS (setS 8 (compE (srcR (rg1 (bin2 D.add (con (.int 1)) (bin2 D.fdiv (var 7) (con (.int 2)))))) (tgN 13) yesT (callN (callF 2 f__law_pick) (argsN (var 0) (argsN (var 5) args0))) [13])) (setS 9 (bin2 D.add (bin2 D.add (var 8) (un1 D.revX (cutE (var 8) noP (partE (un1 D.neg (con (.int 1))))))) (callN lstD (argsN (callN (callF 2 f__law_pick) (argsN (var 0) (argsN (var 5) args0))) args0))))) (ifS (testE (bin2 D.eq (var 6) (con (.int 1)))) (seqS (parS [10, 11] (argsN (callN (callF 2 f__law_pick) (argsN (var 0) (argsN (var 5) args0))) (argsN (callN (callF 2 f__law_pick) (argsN (var 0) (argsN (var 5) args0))) args0))) (setS 9 (compE (srcR (rg1 (bin2 D.add (var 7) (con (.int 1))))) (tgN 13) yesT (ifE (testE (bin2 D.eq (bin2 D.mod (callN (one D.toInt) (argsN (var 13) args0)) (con (.int 2))) (con (.int 0)))) (var 10) (var 11)) [13]))) (setS 9 (compE (srcR (rg1 (var 7))) (tgN 13) yesT (callN (callF 2 f__law_pick) (argsN (var 0) (argsN (var 5) args0))) [13])))) (seqS (setS 12 (callN (callF 2 f__law_mixed) (argsN (var 0) (argsN (compE (srcE true (var 5)) (tgN 14) (testE (bin2 D.ne (var 14) (bin2 D.ix (var 9) (un1 D.neg (con (.int 1)))))) (var 14) [14]) args0)))) (seqS (frzS 4) (retS (callN tupD (argsN (con (.str "method")) (argsN (var 4) (argsN (callN (one D.toTup) (argsN (var 9) args0)) (argsN (callN (one D.toTup) (argsN (cutE (cutE (var 12) noP (partE (callN (callF 2 f__law_draw) (argsN (var 0) (argsN (bin2 D.add (callN (two D.min2) (argsN (con (.int 3)) (argsN (callN (two D.max2) (argsN (con (.int 1)) (argsN (bin2 D.add (callN (one D.len) (argsN (var 12) args0)) (con (.int 1))) args0))) args0))) (con (.int 1))) args0))))) noP (partE (con (.int 3)))) args0)) args0))))))))))))
def f__law_method : FD := runF 15 s__law_method
theorem sc__law_method : FnScope ["pot", "least", "most", "long", "bells", "every", "way", "many", "half", "changes", "near", "far", "left", "turn", "one"] ["pot", "least", "most", "long"] (defScope (top 58)) := ⟨rfl, rfl, rfl, by decide +kernel, rfl, by decide +kernel, by decide +kernel⟩
/-! _law_course -/
def s__law_course : SD := (seqS (setS 2 (un1 tupRg1 (bin2 D.ix (var 0) (con (.int 1))))) (seqS (parS [3, 4, 5] (argsN (callN lstD args0) (argsN (callN lstD args0) (argsN (var 2) args0)))) (seqS (forS (srcR (rg1 (con (.int 720)))) (tgN 6) (ifS (orT (testE (bin2 D.eq (var 4) (callN lstD args0))) (testE (bin2 D.ne (var 5) (var 2)))) (seqS (asgT (callN (callF 3 f__law_lead) (argsN (var 0) (argsN (var 5) (argsN (var 1) args0)))) (tgT 2 (tgCons (tgN 7) (tgCons (tgN 8) tgNil)))) (parS [3, 4, 5] (argsN (bin2 D.add (var 3) (var 7)) (argsN (bin2 D.add (var 4) (callN lstD (argsN (var 5) args0))) (argsN (var 8) args0))))) skipS)) (seqS (frzS 4) (seqS (frzS 3) (retS (callN tupD (argsN (var 3) (argsN (var 4) args0)))))))))
def f__law_course : FD := runF 9 s__law_course
theorem sc__law_course : FnScope ["method", "call", "rounds", "rows", "heads", "here", "turn", "some", "late"] ["method", "call"] (defScope (top 60)) := ⟨rfl, rfl, rfl, by decide +kernel, rfl, by decide +kernel, by decide +kernel⟩
/-! is_change_of -/
def s_is_change_of : SD := (seqS (ifS (orT (notT (testE (callN (callF 2 f_is_lot) (argsN (var 1) (argsN (bin2 D.sub (var 0) (con (.int 1))) args0))))) (testE (bin2 D.eq (callN (one D.len) (argsN (var 1) args0)) (var 0)))) (retS (con (.bl false))) skipS) (retS (bin2 notNonD (callN (callF 2 f_pairs_of) (argsN (var 0) (argsN (var 1) args0))) (con .non))))
def f_is_change_of : FD := runF 2 s_is_change_of
theorem sc_is_change_of : FnScope ["bells", "value"] ["bells", "value"] (defScope (top 23)) := ⟨rfl, rfl, rfl, by decide +kernel, rfl, by decide +kernel, by decide +kernel⟩
/-! want_row -/
def s_want_row : SD := (ifS (notT (testE (callN (callF 2 f_is_row_of) (argsN (var 0) (argsN (var 1) args0))))) failS skipS)
def f_want_row : FD := runF 2 s_want_row
theorem sc_want_row : FnScope ["bells", "row"] ["bells", "row"] (defScope (top 24)) := ⟨rfl, rfl, rfl, by decide +kernel, rfl, by decide +kernel, by decide +kernel⟩
/-! turns_of -/
def s_turns_of : SD := (seqS (setS 1 (bin2 D.ix (callN (callF 1 f_lead_of) (argsN (var 0) args0)) (un1 D.neg (con (.int 1))))) (retS (callN (one D.toTup) (argsN (compE (srcE true (bin2 D.add (cutE (bin2 D.ix (var 0) (con (.int 2))) (partE (un1 D.neg (con (.int 1)))) noP) (bin2 D.ix (var 0) (con (.int 3))))) (tgN 2) yesT (callN (callF 2 f_times) (argsN (var 1) (argsN (callN (callF 2 f_change_row) (argsN (bin2 D.ix (var 0) (con (.int 1))) (argsN (var 2) args0))) args0))) [2]) args0))))
def f_turns_of : FD := runF 3 s_turns_of
theorem sc_turns_of : FnScope ["method", "last", "change"] ["method"] (defScope (top 32)) := ⟨rfl, rfl, rfl, by decide +kernel, rfl, by decide +kernel, by decide +kernel⟩
/-! path_of -/
def s_path_of : SD := (retS (compE (srcE true (callN (callF 1 f_lead_of) (argsN (var 0) args0))) (tgN 2) yesT (idxE (var 2) (var 1)) [2]))
def f_path_of : FD := runF 3 s_path_of
theorem sc_path_of : FnScope ["method", "place", "row"] ["method", "place"] (defScope (top 41)) := ⟨rfl, rfl, rfl, by decide +kernel, rfl, by decide +kernel, by decide +kernel⟩
/-! is_method_any -/
def s_is_method_any : SD := (seqS (ifS (orT (notT (testE (callN (callF 2 f_is_tuple) (argsN (var 0) (argsN (con (.int 4)) args0))))) (orT (notT (testE (un1 (isiX ["str"]) (bin2 D.ix (var 0) (con (.int 0)))))) (orT (testE (bin2 D.ne (bin2 D.ix (var 0) (con (.int 0))) (con (.str "method")))) (notT (testE (callN (callF 1 f_is_bells) (argsN (bin2 D.ix (var 0) (con (.int 1))) args0))))))) (retS (con (.bl false))) skipS) (seqS (asgT (var 0) (tgT 4 (tgCons (tgN 1) (tgCons (tgN 2) (tgCons (tgN 3) (tgCons (tgN 4) tgNil)))))) (seqS (ifS (orT (notT (testE (un1 (isiX ["tuple"]) (var 3)))) (notT (testE (chainE D.le D.le (con (.int 1)) (callN (one D.len) (argsN (var 3) args0)) (con (.int 40)))))) (retS (con (.bl false))) skipS) (seqS (ifS (orT (notT (testE (un1 (isiX ["tuple"]) (var 4)))) (testE (bin2 D.gt (callN (one D.len) (argsN (var 4) args0)) (con (.int 3))))) (retS (con (.bl false))) skipS) (seqS (ifS (notT (testE (callN (one D.all) (argsN (compE (srcE true (bin2 D.add (var 3) (var 4))) (tgN 5) yesT (callN (callF 2 f_is_change_of) (argsN (var 2) (argsN (var 5) args0))) [5]) args0)))) (retS (con (.bl false))) skipS) (retS (bin2 D.eq (un1 D.lenSetA (bin2 D.add (var 4) (cutE (var 3) (partE (un1 D.neg (con (.int 1)))) noP))) (bin2 D.add (callN (one D.len) (argsN (var 4) args0)) (con (.int 1))))))))))
def f_is_method_any : FD := runF 6 s_is_method_any
theorem sc_is_method_any : FnScope ["value", "word", "bells", "changes", "calls", "one"] ["value"] (defScope (top 29)) := ⟨rfl, rfl, rfl, by decide +kernel, rfl, by decide +kernel, by decide +kernel⟩
/-! heads_of -/
def s_heads_of : SD := (seqS (parS [2, 3] (argsN (callN (callF 1 f_turns_of) (argsN (var 0) args0)) (argsN (callN lstD (argsN (callN (callF 1 f_rounds_of) (argsN (bin2 D.ix (var 0) (con (.int 1))) args0)) args0)) args0))) (seqS (forS (srcE false (var 1)) (tgN 4) (appendS 3 (callN (callF 2 f_times) (argsN (bin2 D.ix (var 3) (un1 D.neg (con (.int 1)))) (argsN (bin2 D.ix (var 2) (var 4)) args0))))) (retV 3)))
def f_heads_of : FD := runF 5 s_heads_of
theorem sc_heads_of : FnScope ["method", "touch", "turns", "found", "call"] ["method", "touch"] (defScope (top 34)) := ⟨rfl, rfl, rfl, by decide +kernel, rfl, by decide +kernel, by decide +kernel⟩
/-! course_of -/
def s_course_of : SD := (retS (bin2 D.mulT (callN lstD (argsN (var 1) args0)) (callN (callF 1 f_order_of) (argsN (bin2 D.ix (callN (callF 1 f_turns_of) (argsN (var 0) args0)) (var 1)) args0))))
def f_course_of : FD := runF 2 s_course_of
theorem sc_course_of : FnScope ["method", "call"] ["method", "call"] (defScope (top 36)) := ⟨rfl, rfl, rfl, by decide +kernel, rfl, by decide +kernel, by decide +kernel⟩
/-! order_places -/
def s_order_places : SD := (seqS (parS [2, 3] (argsN (callN (callF 1 f_inverse_of) (argsN (bin2 D.ix (callN (callF 1 f_turns_of) (argsN (var 0) args0)) (con (.int 0))) args0)) (argsN (callN lstD (argsN (var 1) args0)) args0))) (seqS (whileS (testE (bin2 D.ne (bin2 D.ix (var 2) (bin2 D.ix (var 3) (un1 D.neg (con (.int 1))))) (var 1))) (appendS 3 (bin2 D.ix (var 2) (bin2 D.ix (var 3) (un1 D.neg (con (.int 1)))))) 1000) (retV 3)))
def f_order_places : FD := runF 4 s_order_places
theorem sc_order_places : FnScope ["method", "bell", "back", "found"] ["method", "bell"] (defScope (top 43)) := ⟨rfl, rfl, rfl, by decide +kernel, rfl, by decide +kernel, by decide +kernel⟩
/-! want_method -/
def s_want_method : SD := (ifS (notT (testE (callN (callF 1 f_is_method_any) (argsN (var 0) args0)))) failS skipS)
def f_want_method : FD := runF 1 s_want_method
theorem sc_want_method : FnScope ["method"] ["method"] (defScope (top 30)) := ⟨rfl, rfl, rfl, by decide +kernel, rfl, by decide +kernel, by decide +kernel⟩
/-! heads_told -/
def s_heads_told : SD := (retS (cutE (callN (callF 2 f_heads_of) (argsN (var 0) (argsN (callN (callF 2 f_course_of) (argsN (var 0) (argsN (var 1) args0))) args0))) noP (partE (un1 D.neg (con (.int 1))))))
def f_heads_told : FD := runF 2 s_heads_told
theorem sc_heads_told : FnScope ["method", "call"] ["method", "call"] (defScope (top 37)) := ⟨rfl, rfl, rfl, by decide +kernel, rfl, by decide +kernel, by decide +kernel⟩
/-! work_of -/
def s_work_of : SD := (seqS (setS 2 (callN lstD args0)) (seqS (forS (srcE false (callN (callF 2 f_heads_told) (argsN (var 0) (argsN (con (.int 0)) args0)))) (tgN 3) (extendS 2 (callN (callF 2 f_path_of) (argsN (var 0) (argsN (idxE (var 3) (var 1)) args0))))) (retV 2)))
def f_work_of : FD := runF 4 s_work_of
theorem sc_work_of : FnScope ["method", "bell", "found", "head"] ["method", "bell"] (defScope (top 42)) := ⟨rfl, rfl, rfl, by decide +kernel, rfl, by decide +kernel, by decide +kernel⟩
/-! path -/
def s_path : SD := (seqS (dropS (callN (callF 1 f_want_method) (argsN (var 0) args0))) (seqS (dropS (callN (callF 2 f_want_place) (argsN (var 0) (argsN (var 1) args0)))) (retS (callN (callF 2 f_path_of) (argsN (var 0) (argsN (var 1) args0))))))
def f_path : FD := runF 2 s_path
theorem sc_path : FnScope ["method", "place"] ["method", "place"] (defScope (top 44)) := ⟨rfl, rfl, rfl, by decide +kernel, rfl, by decide +kernel, by decide +kernel⟩
/-! path_from -/
def s_path_from : SD := (seqS (dropS (callN (callF 1 f_want_method) (argsN (var 0) args0))) (seqS (dropS (callN (callF 2 f_want_row) (argsN (bin2 D.ix (var 0) (con (.int 1))) (argsN (var 1) args0)))) (seqS (dropS (callN (callF 2 f_want_bell) (argsN (var 0) (argsN (var 2) args0)))) (retS (callN (callF 2 f_path_of) (argsN (var 0) (argsN (idxE (var 1) (var 2)) args0)))))))
def f_path_from : FD := runF 3 s_path_from
theorem sc_path_from : FnScope ["method", "row", "bell"] ["method", "row", "bell"] (defScope (top 45)) := ⟨rfl, rfl, rfl, by decide +kernel, rfl, by decide +kernel, by decide +kernel⟩
/-! lead_places -/
def s_lead_places : SD := (seqS (dropS (callN (callF 1 f_want_method) (argsN (var 0) args0))) (seqS (dropS (callN (callF 2 f_want_bell) (argsN (var 0) (argsN (var 1) args0)))) (retS (callN (callF 2 f_order_places) (argsN (var 0) (argsN (var 1) args0))))))
def f_lead_places : FD := runF 2 s_lead_places
theorem sc_lead_places : FnScope ["method", "bell"] ["method", "bell"] (defScope (top 47)) := ⟨rfl, rfl, rfl, by decide +kernel, rfl, by decide +kernel, by decide +kernel⟩
/-! same_work -/
def s_same_work : SD := (seqS (dropS (callN (callF 1 f_want_method) (argsN (var 0) args0))) (retS (un1 D.sortSetO (compE (srcR (rg1 (bin2 D.ix (var 0) (con (.int 1))))) (tgN 1) yesT (callN (one D.toTup) (argsN (callN (one D.sortedX) (argsN (callN (callF 2 f_order_places) (argsN (var 0) (argsN (var 1) args0))) args0)) args0)) [1]))))
def f_same_work : FD := runF 2 s_same_work
theorem sc_same_work : FnScope ["method", "bell"] ["method"] (defScope (top 48)) := ⟨rfl, rfl, rfl, by decide +kernel, rfl, by decide +kernel, by decide +kernel⟩
/-! leads_behind -/
def s_leads_behind : SD := (seqS (dropS (callN (callF 1 f_want_method) (argsN (var 0) args0))) (seqS (dropS (callN (callF 2 f_want_bell) (argsN (var 0) (argsN (var 1) args0)))) (seqS (dropS (callN (callF 2 f_want_bell) (argsN (var 0) (argsN (var 2) args0)))) (seqS (setS 3 (callN (callF 2 f_order_places) (argsN (var 0) (argsN (var 1) args0)))) (retS (ifE (testE (bin2 (inList false) (var 2) (var 3))) (idxE (var 3) (var 2)) (con .non)))))))
def f_leads_behind : FD := runF 4 s_leads_behind
theorem sc_leads_behind : FnScope ["method", "bell", "further", "some"] ["method", "bell", "further"] (defScope (top 49)) := ⟨rfl, rfl, rfl, by decide +kernel, rfl, by decide +kernel, by decide +kernel⟩
/-! crossings -/
def s_crossings : SD := (seqS (dropS (callN (callF 1 f_want_method) (argsN (var 0) args0))) (seqS (dropS (callN (callF 2 f_want_bell) (argsN (var 0) (argsN (var 1) args0)))) (seqS (dropS (callN (callF 2 f_want_bell) (argsN (var 0) (argsN (var 2) args0)))) (seqS (parS [3, 4] (argsN (callN (callF 2 f_path_of) (argsN (var 0) (argsN (var 1) args0))) (argsN (callN (callF 2 f_path_of) (argsN (var 0) (argsN (var 2) args0))) args0))) (seqS (setS 5 (callN (callF 1 f_inverse_of) (argsN (bin2 D.ix (callN (callF 1 f_turns_of) (argsN (var 0) args0)) (con (.int 0))) args0))) (seqS (parS [3, 4] (argsN (bin2 D.add (var 3) (callN lstD (argsN (bin2 D.ix (var 5) (var 1)) args0))) (argsN (bin2 D.add (var 4) (callN lstD (argsN (bin2 D.ix (var 5) (var 2)) args0))) args0))) (seqS (setS 6 (callN lstD args0)) (seqS (forS (srcR (rg1 (callN (one D.len) (argsN (bin2 D.ix (var 0) (con (.int 2))) args0)))) (tgN 7) (ifS (andT (testE (bin2 D.ne (var 1) (var 2))) (testE (bin2 D.eq (callN tupD (argsN (bin2 D.ix (var 3) (var 7)) (argsN (bin2 D.ix (var 4) (var 7)) args0))) (callN tupD (argsN (bin2 D.ix (var 4) (bin2 D.add (var 7) (con (.int 1)))) (argsN (bin2 D.ix (var 3) (bin2 D.add (var 7) (con (.int 1)))) args0)))))) (appendS 6 (var 7)) skipS)) (retV 6)))))))))
def f_crossings : FD := runF 8 s_crossings
theorem sc_crossings : FnScope ["method", "bell", "further", "near", "far", "back", "found", "place"] ["method", "bell", "further"] (defScope (top 50)) := ⟨rfl, rfl, rfl, by decide +kernel, rfl, by decide +kernel, by decide +kernel⟩
/-! work -/
def s_work : SD := (seqS (dropS (callN (callF 1 f_want_method) (argsN (var 0) args0))) (seqS (dropS (callN (callF 2 f_want_bell) (argsN (var 0) (argsN (var 1) args0)))) (retS (callN (callF 2 f_work_of) (argsN (var 0) (argsN (var 1) args0))))))
def f_work : FD := runF 2 s_work
theorem sc_work : FnScope ["method", "bell"] ["method", "bell"] (defScope (top 46)) := ⟨rfl, rfl, rfl, by decide +kernel, rfl, by decide +kernel, by decide +kernel⟩
/-! _law_bells_right -/
def s__law_bells_right : SD := (seqS (parS [4, 5] (argsN (callN (one D.len) (argsN (bin2 D.ix (var 1) (con (.int 2))) args0)) (argsN (bin2 D.ix (var 1) (con (.int 1))) args0))) (seqS (parS [6, 7] (argsN (callN lstD args0) (argsN (compE (srcR (rg1 (var 5))) (tgN 8) yesT (compE (srcE true (var 2)) (tgN 17) yesT (idxE (var 17) (var 8)) [17]) [8]) args0))) (seqS (forS (srcR (rg1 (var 5))) (tgN 8) (seqS (setS 9 (callN lstD args0)) (seqS (forS (srcE false (var 3)) (tgN 10) (ifS (testE (bin2 (inList true) (idxE (var 10) (var 8)) (var 9))) (appendS 9 (idxE (var 10) (var 8))) skipS)) (seqS (setS 11 (callN lstD (argsN (callN (callF 2 f_work) (argsN (var 1) (argsN (var 8) args0))) (argsN (callN (callF 2 f_lead_places) (argsN (var 1) (argsN (var 8) args0))) args0)))) (seqS (ifS (testE (bin2 D.ne (callN (one D.reprX) (argsN (callN lstD (argsN (var 11) (argsN (callN lstD (argsN (callN (callP [1, 0] 2 f_work) (argsN (var 8) (argsN (var 1) args0))) (argsN (callN (callP [1, 0] 2 f_lead_places) (argsN (var 8) (argsN (var 1) args0))) args0))) args0))) args0)) (callN (one D.reprX) (argsN (bin2 D.mulT (callN lstD (argsN (callN lstD (argsN (bin2 D.ix (var 7) (var 8)) (argsN (var 9) args0))) args0)) (con (.int 2))) args0)))) (retS (con (.bl false))) skipS) (seqS (poke2S 11 0 1) (seqS (ifS (testE (bin2 D.ne (callN (one D.reprX) (argsN (callN lstD (argsN (callN (callF 2 f_work) (argsN (var 1) (argsN (var 8) args0))) (argsN (callN (callF 2 f_lead_places) (argsN (var 1) (argsN (var 8) args0))) args0))) args0)) (callN (one D.reprX) (argsN (callN lstD (argsN (bin2 D.ix (var 7) (var 8)) (argsN (var 9) args0))) args0)))) (retS (con (.bl false))) skipS) (appendS 6 (callN (one D.toTup) (argsN (callN (one D.sortedX) (argsN (var 9) args0)) args0)))))))))) (seqS (ifS (testE (bin2 D.ne (callN (one D.reprX) (argsN (callN lstD (argsN (callN (callF 1 f_same_work) (argsN (var 1) args0)) (argsN (callN (callP [0] 1 f_same_work) (argsN (var 1) args0)) args0))) args0)) (callN (one D.reprX) (argsN (bin2 D.mulT (callN lstD (argsN (un1 D.sortSetO (var 6)) args0)) (con (.int 2))) args0)))) (retS (con (.bl false))) skipS) (seqS (forS (srcR (rg1 (con (.int 4)))) (tgN 12) (seqS (parS [8, 13] (argsN (callN (callF 2 f__law_draw) (argsN (var 0) (argsN (var 5) args0))) (argsN (callN (callF 2 f__law_draw) (argsN (var 0) (argsN (var 5) args0))) args0))) (seqS (setS 14 (compE (srcR (rg1 (callN (one D.len) (argsN (var 3) args0)))) (tgN 16) (testE (bin2 D.eq (idxE (bin2 D.ix (var 3) (var 16)) (var 8)) (var 13))) (var 16) [16])) (seqS (setS 15 (ifE (testE (bin2 D.ne (var 14) (callN lstD args0))) (bin2 D.ix (var 14) (con (.int 0))) (con .non))) (seqS (ifS (testE (bin2 D.ne (callN (one D.reprX) (argsN (callN lstD (argsN (callN (callF 3 f_leads_behind) (argsN (var 1) (argsN (var 8) (argsN (var 13) args0)))) (argsN (callN (callP [2, 1, 0] 3 f_leads_behind) (argsN (var 13) (argsN (var 8) (argsN (var 1) args0)))) args0))) args0)) (callN (one D.reprX) (argsN (callN lstD (argsN (var 15) (argsN (var 15) args0))) args0)))) (retS (con (.bl false))) skipS) (ifS (andT (testE (bin2 notNonD (var 15) (con .non))) (testE (bin2 D.ne (bin2 D.add (cutE (bin2 D.ix (var 7) (var 8)) (partE (bin2 D.mulT (var 15) (var 4))) noP) (cutE (bin2 D.ix (var 7) (var 8)) noP (partE (bin2 D.mulT (var 15) (var 4))))) (bin2 D.ix (var 7) (var 13))))) (retS (con (.bl false))) skipS)))))) (retS (con (.bl true))))))))
def f__law_bells_right : FD := runF 18 s__law_bells_right
theorem sc__law_bells_right : FnScope ["pot", "method", "rows", "heads", "many", "bells", "lots", "works", "bell", "begins", "head", "told", "turn", "further", "some", "due", "late", "row"] ["pot", "method", "rows", "heads"] (defScope (top 61)) := ⟨rfl, rfl, rfl, by decide +kernel, rfl, by decide +kernel, by decide +kernel⟩
/-! _law_right -/
def s__law_right : SD := (seqS (setS 3 (callN (callF 4 f__law_method) (argsN (var 0) (argsN (var 1) (argsN (var 2) (argsN (con (.int 8)) args0)))))) (seqS (parS [4, 5] (argsN (bin2 D.ix (var 3) (con (.int 1))) (argsN (callN (one D.reprX) (argsN (var 3) args0)) args0))) (seqS (setS 6 (un1 tupRg1 (var 4))) (seqS (asgT (callN (callF 3 f__law_lead) (argsN (var 3) (argsN (var 6) (argsN (con (.int 0)) args0)))) (tgT 2 (tgCons (tgN 7) (tgCons (tgN 8) tgNil)))) (seqS (setS 9 (compE (srcE true (var 6)) (tgN 18) yesT (compE (srcE true (var 7)) (tgN 22) yesT (idxE (var 22) (var 18)) [22]) [18])) (seqS (ifS (testE (bin2 D.ne (callN (one D.reprX) (argsN (callN lstD (argsN (compE (srcE true (var 6)) (tgN 18) yesT (callN (callF 2 f_path) (argsN (var 3) (argsN (var 18) args0))) [18]) (argsN (compE (srcE true (var 6)) (tgN 18) yesT (callN (callP [1, 0] 2 f_path) (argsN (var 18) (argsN (var 3) args0))) [18]) args0))) args0)) (callN (one D.reprX) (argsN (callN lstD (argsN (var 9) (argsN (var 9) args0))) args0)))) (retS (con (.bl false))) skipS) (seqS (parS [10, 11] (argsN (callN (one D.toTup) (argsN (callN (callF 2 f__law_mixed) (argsN (var 0) (argsN (callN (one D.toList) (argsN (var 6) args0)) args0))) args0)) (argsN (callN (callF 2 f__law_draw) (argsN (var 0) (argsN (var 4) args0))) args0))) (seqS (setS 12 (compE (srcE true (bin2 D.ix (callN (callF 3 f__law_lead) (argsN (var 3) (argsN (var 10) (argsN (con (.int 0)) args0)))) (con (.int 0)))) (tgN 22) yesT (idxE (var 22) (var 11)) [22])) (seqS (ifS (testE (bin2 D.ne (callN (one D.reprX) (argsN (callN lstD (argsN (callN (callF 3 f_path_from) (argsN (var 3) (argsN (var 10) (argsN (var 11) args0)))) (argsN (callN (callP [2, 1, 0] 3 f_path_from) (argsN (var 11) (argsN (var 10) (argsN (var 3) args0)))) args0))) args0)) (callN (one D.reprX) (argsN (callN lstD (argsN (var 12) (argsN (var 12) args0))) args0)))) (retS (con (.bl false))) skipS) (seqS (asgT (callN (callF 2 f__law_course) (argsN (var 3) (argsN (con (.int 0)) args0))) (tgT 2 (tgCons (tgN 13) (tgCons (tgN 14) tgNil)))) (seqS (ifS (notT (testE (callN (callF 4 f__law_bells_right) (argsN (var 0) (argsN (var 3) (argsN (var 13) (argsN (var 14) args0))))))) (retS (con (.bl false))) skipS) (seqS (parS [15, 16, 17] (argsN (callN (callF 2 f__law_draw) (argsN (var 0) (argsN (var 4) args0))) (argsN (callN (callF 2 f__law_draw) (argsN (var 0) (argsN (var 4) args0))) (argsN (bin2 D.add (var 7) (callN lstD (argsN (var 8) args0))) args0)))) (seqS (setS 12 (callN lstD args0)) (seqS (forS (srcR (rg1 (callN (one D.len) (argsN (var 7) args0)))) (tgN 18) (seqS (parS [19, 20] (argsN (bin2 D.ix (var 17) (var 18)) (argsN (bin2 D.ix (var 17) (bin2 D.add (var 18) (con (.int 1)))) args0))) (ifS (andT (testE (bin2 D.ne (var 15) (var 16))) (andT (testE (bin2 D.eq (idxE (var 19) (var 15)) (idxE (var 20) (var 16)))) (testE (bin2 D.eq (idxE (var 19) (var 16)) (idxE (var 20) (var 15)))))) (appendS 12 (var 18)) skipS))) (seqS (setS 21 (callN lstD (argsN (callN (callF 3 f_crossings) (argsN (var 3) (argsN (var 15) (argsN (var 16) args0)))) (argsN (callN (callP [2, 1, 0] 3 f_crossings) (argsN (var 16) (argsN (var 15) (argsN (var 3) args0)))) (argsN (callN (callF 3 f_crossings) (argsN (var 3) (argsN (var 16) (argsN (var 15) args0)))) args0))))) (retS (andE (bin2 D.eq (callN (one D.reprX) (argsN (var 21) args0)) (callN (one D.reprX) (argsN (bin2 D.mulT (callN lstD (argsN (var 12) args0)) (con (.int 3))) args0))) (bin2 D.eq (callN (one D.reprX) (argsN (var 3) args0)) (var 5)))))))))))))))))))
def f__law_right : FD := runF 23 s__law_right
theorem sc__law_right : FnScope ["pot", "least", "most", "method", "bells", "shown", "rounds", "lead", "late", "paths", "head", "bell", "due", "rows", "heads", "near", "far", "every", "place", "here", "there", "told", "row"] ["pot", "least", "most"] (defScope (top 62)) := ⟨rfl, rfl, rfl, by decide +kernel, rfl, by decide +kernel, by decide +kernel⟩
section
variable {P : Program} {w : World} {K : PySem.W.Frag} {mg : Str → Option Value} {base : Heap} {f : Addr} {fd : FuncData}
theorem c_is_integer (fr : Fr mg) (F : FunD K "is_integer" "is_integer" (defArgs (top 1)) (defBody (top 1)) (defScope (top 1)) [] [] f fd) (m : mg "is_integer" = some (.ref f))   : Cal P w K mg base 1 "is_integer" ["value"] (defArgs (top 1)) (defBody (top 1)) (defScope (top 1)) f_is_integer := by
  refine ⟨f, fd, fnF F sc_is_integer fun cdv A outer sh H E hg hr G => ?_, m, F⟩
  have hu := room65 hr
  have hu64 := room64 hr
  have hu10 := room10 hr
  have nd := sc_is_integer.nd
  exact (ss_one (st_ret (ee_and (ee_isiX "int" (ee_var 0) rfl fr.isinstance rfl fr.int boot_int) (ee_one (ee_not (ee_isiX "bool" (ee_var 0) rfl fr.isinstance rfl fr.bool boot_bool))))))
theorem c_is_tuple (fr : Fr mg) (F : FunD K "is_tuple" "is_tuple" (defArgs (top 3)) (defBody (top 3)) (defScope (top 3)) [] [] f fd) (m : mg "is_tuple" = some (.ref f))   : Cal P w K mg base 1 "is_tuple" ["value", "many"] (defArgs (top 3)) (defBody (top 3)) (defScope (top 3)) f_is_tuple := by
  refine ⟨f, fd, fnF F sc_is_tuple fun cdv A outer sh H E hg hr G => ?_, m, F⟩
  have hu := room65 hr
  have hu64 := room64 hr
  have hu10 := room10 hr
  have nd := sc_is_tuple.nd
  exact (ss_one (st_ret (ee_and (ee_isiX "tuple" (ee_var 0) rfl fr.isinstance rfl fr.tuple boot_tuple) (ee_one (ee_cmp (op_eqD hu64) o_eq (ee_callB cr_len (opN_one o_len) rfl fr.len boot_len (ea_cons (ee_var 0) ea_nil)) (ee_var 1) (by first | exact nobehind _ (by decide) (by decide) | rfl))))))
theorem c_are_rising (fr : Fr mg) (F : FunD K "are_rising" "are_rising" (defArgs (top 4)) (defBody (top 4)) (defScope (top 4)) [] [] f fd) (m : mg "are_rising" = some (.ref f))   : Cal P w K mg base 1 "are_rising" ["values"] (defArgs (top 4)) (defBody (top 4)) (defScope (top 4)) f_are_rising := by
  refine ⟨f, fd, fnF F sc_are_rising fun cdv A outer sh H E hg hr G => ?_, m, F⟩
  have hu := room65 hr
  have hu64 := room64 hr
  have hu10 := room10 hr
  have nd := sc_are_rising.nd
  exact (ss_one (st_ret (ee_callB (cr_allD rfl) (opN_one (o_foldB _ _ fun _ => rfl)) rfl fr.all boot_all (ea_cons (ee_comp [("near", 1), ("far", 2)] rfl nd (ei_zipC rfl fr.zip (ea_cons (ee_var 0) (ea_cons (ee_cut (ee_var 0) (eo_some ee_int) eo_none) ea_nil))) (show BlkOk ["values", "near", "far"] (defScope (top 4)) _ [("near", 1), ("far", 2)] from ⟨rfl, by decide +kernel, by decide +kernel, by decide +kernel, by decide +kernel⟩) (fun _ _ _ _ _ => (tg_t rfl (tg_cons (tg_n 1 nd) (tg_cons (tg_n 2 nd) tg_nil)))) (fun _ _ _ _ _ => ts_nil) (fun _ _ _ _ _ => (ee_cmp op_lt (o_cmpI _) (ee_var 1) (ee_var 2) (by first | exact nobehind _ (by decide) (by decide) | rfl)))) ea_nil))))
theorem c_rounds_of (fr : Fr mg) (F : FunD K "rounds_of" "rounds_of" (defArgs (top 15)) (defBody (top 15)) (defScope (top 15)) [] [] f fd) (m : mg "rounds_of" = some (.ref f))   : Cal P w K mg base 1 "rounds_of" ["bells"] (defArgs (top 15)) (defBody (top 15)) (defScope (top 15)) f_rounds_of := by
  refine ⟨f, fd, fnF F sc_rounds_of fun cdv A outer sh H E hg hr G => ?_, m, F⟩
  have hu := room65 hr
  have hu64 := room64 hr
  have hu10 := room10 hr
  have nd := sc_rounds_of.nd
  exact (ss_one (st_ret (ee_tupRg1 rfl rfl fr.tuple rfl fr.range (ee_var 0))))
theorem c_times (fr : Fr mg) (F : FunD K "times" "times" (defArgs (top 16)) (defBody (top 16)) (defScope (top 16)) [] [] f fd) (m : mg "times" = some (.ref f))   : Cal P w K mg base 1 "times" ["row", "other"] (defArgs (top 16)) (defBody (top 16)) (defScope (top 16)) f_times := by
  refine ⟨f, fd, fnF F sc_times fun cdv A outer sh H E hg hr G => ?_, m, F⟩
  have hu := room65 hr
  have hu64 := room64 hr
  have hu10 := room10 hr
  have nd := sc_times.nd
  exact (ss_one (st_ret (ee_callTy cr_tuple (opN_one o_tuple) rfl fr.tuple boot_tuple (ea_cons (ee_comp [("place", 2)] rfl nd (ei_comp (ee_var 1)) (show BlkOk ["row", "other", "place"] (defScope (top 16)) _ [("place", 2)] from ⟨rfl, by decide +kernel, by decide +kernel, by decide +kernel, by decide +kernel⟩) (fun _ _ _ _ _ => (tg_n 2 nd)) (fun _ _ _ _ _ => ts_nil) (fun _ _ _ _ _ => (ee_ix (ee_var 0) (ee_var 2)))) ea_nil))))
theorem c_inverse_of (fr : Fr mg) (F : FunD K "inverse_of" "inverse_of" (defArgs (top 17)) (defBody (top 17)) (defScope (top 17)) [] [] f fd) (m : mg "inverse_of" = some (.ref f))   : Cal P w K mg base 1 "inverse_of" ["row"] (defArgs (top 17)) (defBody (top 17)) (defScope (top 17)) f_inverse_of := by
  refine ⟨f, fd, fnF F sc_inverse_of fun cdv A outer sh H E hg hr G => ?_, m, F⟩
  have hu := room65 hr
  have hu64 := room64 hr
  have hu10 := room10 hr
  have nd := sc_inverse_of.nd
  exact (ss_cons (st_set 1 nd (ee_bin op_mul5 o_mulT (ee_lst (ea_cons ee_int ea_nil)) (ee_callB cr_len (opN_one o_len) rfl fr.len boot_len (ea_cons (ee_var 0) ea_nil)))) (ss_cons (st_for PassesOwn.never rfl (ei_enum rfl fr.enumerate (ea_cons (ee_var 0) ea_nil)) (tg_t rfl (tg_cons (tg_n 2 nd) (tg_cons (tg_n 3 nd) tg_nil))) (ss_one (st_setItem 1 isl_of (ee_var 3) (ee_var 2)))) (ss_one (st_ret (ee_callTy cr_tuple (opN_one o_tuple) rfl fr.tuple boot_tuple (ea_cons (ee_var 1) ea_nil))))))
theorem c_pairs_of (fr : Fr mg) (F : FunD K "pairs_of" "pairs_of" (defArgs (top 19)) (defBody (top 19)) (defScope (top 19)) [] [] f fd) (m : mg "pairs_of" = some (.ref f))   : Cal P w K mg base 1 "pairs_of" ["bells", "change"] (defArgs (top 19)) (defBody (top 19)) (defScope (top 19)) f_pairs_of := by
  refine ⟨f, fd, fnF F sc_pairs_of fun cdv A outer sh H E hg hr G => ?_, m, F⟩
  have hu := room65 hr
  have hu64 := room64 hr
  have hu10 := room10 hr
  have nd := sc_pairs_of.nd
  exact (ss_cons (st_par2 2 3 rfl nd (ea_cons (ee_lst ea_nil) (ea_cons ee_int ea_nil)) rfl) (ss_cons (st_while 1000 PassesOwn.never (tt_cmp op_lt (o_cmpI _) (ee_var 3) (ee_var 0) (by first | exact nobehind _ (by decide) (by decide) | rfl)) (ss_one (st_if (tt_cmp (op_inA hu) (o_inA false) (ee_var 3) (ee_var 1) (by first | exact nobehind _ (by decide) (by decide) | rfl)) (ss_one (st_set 3 nd (ee_bin op_add4 o_add (ee_var 3) ee_int))) (ss_one (st_if (PW.pt (tw_and (tt_cmp op_lt (o_cmpI _) (ee_bin op_add4 o_add (ee_var 3) ee_int) (ee_var 0) (by first | exact nobehind _ (by decide) (by decide) | rfl)) (tw_and1 (tt_cmp (op_notInA hu) (o_inA true) (ee_bin op_add4 o_add (ee_var 3) ee_int) (ee_var 1) (by first | exact nobehind _ (by decide) (by decide) | rfl))))) (ss_cons (st_append 2 isl_of (ea_cons (ee_var 3) ea_nil)) (ss_one (st_set 3 nd (ee_bin op_add4 o_add (ee_var 3) ee_int)))) (ss_one (st_ret ee_non))))))) (ss_one (st_retV 2))))
theorem c__law_changes (fr : Fr mg) (F : FunD K "_law_changes" "_law_changes" (defArgs (top 56)) (defBody (top 56)) (defScope (top 56)) [] [] f fd) (m : mg "_law_changes" = some (.ref f))   : Cal P w K mg base 1 "_law_changes" ["bells"] (defArgs (top 56)) (defBody (top 56)) (defScope (top 56)) f__law_changes := by
  refine ⟨f, fd, fnF F sc__law_changes fun cdv A outer sh H E hg hr G => ?_, m, F⟩
  have hu := room65 hr
  have hu64 := room64 hr
  have hu10 := room10 hr
  have nd := sc__law_changes.nd
  exact (ss_cons (st_set 1 nd (ee_lst (ea_cons (ee_tup (ea_cons (ee_tup ea_nil) (ea_cons ee_int ea_nil))) ea_nil))) (ss_cons (st_for PassesOwn.never rfl (ei_range1 rfl fr.range (ea_cons (ee_var 0) ea_nil)) (tg_n 2 nd) (ss_cons (st_set 3 nd (ee_lst ea_nil)) (ss_cons (st_frz 1 (st_for PassesOwn.never rfl (ei_for (ee_var 1)) (tg_t rfl (tg_cons (tg_n 4 nd) (tg_cons (tg_n 5 nd) tg_nil))) (ss_one (st_if (tt_cmp op_lt (o_cmpI _) (ee_var 5) (ee_var 0) (by first | exact nobehind _ (by decide) (by decide) | rfl)) (ss_cons (st_append 3 isl_of (ea_cons (ee_tup (ea_cons (ee_bin op_add4 o_add (ee_var 4) (ee_tup (ea_cons (ee_var 5) ea_nil))) (ea_cons (ee_bin op_add4 o_add (ee_var 5) ee_int) ea_nil))) ea_nil)) (ss_one (st_extend 3 isl_of (ea_cons (ee_if (tt_cmp op_le (o_cmpI _) (ee_bin op_add4 o_add (ee_var 5) ee_int) (ee_var 0) (by first | exact nobehind _ (by decide) (by decide) | rfl)) (ee_lst (ea_cons (ee_tup (ea_cons (ee_var 4) (ea_cons (ee_bin op_add4 o_add (ee_var 5) ee_int) ea_nil))) ea_nil)) (ee_lst ea_nil)) ea_nil)))) (ss_one (st_append 3 isl_of (ea_cons (ee_tup (ea_cons (ee_var 4) (ea_cons (ee_var 5) ea_nil))) ea_nil))))))) (ss_one (st_frz 3 (st_set 1 nd (ee_var 3))))))) (ss_one (st_ret (ee_sortSetO rfl hu64 hu10 rfl fr.sorted rfl fr.set (ee_comp [("made", 4), ("place", 5)] rfl nd (ei_comp (ee_var 1)) (show BlkOk ["bells", "found", "turn", "longer", "made", "place"] (defScope (top 56)) _ [("made", 4), ("place", 5)] from ⟨rfl, by decide +kernel, by decide +kernel, by decide +kernel, by decide +kernel⟩) (fun _ _ _ _ _ => (tg_t rfl (tg_cons (tg_n 4 nd) (tg_cons (tg_n 5 nd) tg_nil)))) (fun _ _ _ _ _ => (ts_one (PW.pt (tw_and (tt_cmp (op_eqD hu64) o_eq (ee_var 5) (ee_var 0) (by first | exact nobehind _ (by decide) (by decide) | rfl)) (tw_and1 (tt_cmp op_lt (o_cmpI _) (ee_callB cr_len (opN_one o_len) rfl fr.len boot_len (ea_cons (ee_var 4) ea_nil)) (ee_var 0) (by first | exact nobehind _ (by decide) (by decide) | rfl))))))) (fun _ _ _ _ _ => (ee_var 4))))))))
theorem c__law_changed (fr : Fr mg) (F : FunD K "_law_changed" "_law_changed" (defArgs (top 57)) (defBody (top 57)) (defScope (top 57)) [] [] f fd) (m : mg "_law_changed" = some (.ref f))   : Cal P w K mg base 1 "_law_changed" ["row", "change"] (defArgs (top 57)) (defBody (top 57)) (defScope (top 57)) f__law_changed := by
  refine ⟨f, fd, fnF F sc__law_changed fun cdv A outer sh H E hg hr G => ?_, m, F⟩
  have hu := room65 hr
  have hu64 := room64 hr
  have hu10 := room10 hr
  have nd := sc__law_changed.nd
  exact (ss_cons (st_par2 2 3 rfl nd (ea_cons (ee_callTy cr_list (opN_one o_list) rfl fr.list boot_list (ea_cons (ee_var 0) ea_nil)) (ea_cons ee_int ea_nil)) rfl) (ss_cons (st_while 1000 PassesOwn.never (tt_cmp op_lt (o_cmpI _) (ee_var 3) (ee_callB cr_len (opN_one o_len) rfl fr.len boot_len (ea_cons (ee_var 0) ea_nil)) (by first | exact nobehind _ (by decide) (by decide) | rfl)) (ss_one (st_if (tt_cmp (op_inA hu) (o_inA false) (ee_var 3) (ee_var 1) (by first | exact nobehind _ (by decide) (by decide) | rfl)) (ss_one (st_set 3 nd (ee_bin op_add4 o_add (ee_var 3) ee_int))) (ss_cons (st_set2 2 2 rfl isl_of isl_of (ee_var 3) (ee_bin op_add4 o_add (ee_var 3) ee_int) (ea_cons (ee_ix (ee_var 0) (ee_bin op_add4 o_add (ee_var 3) ee_int)) (ea_cons (ee_ix (ee_var 0) (ee_var 3)) ea_nil))) (ss_one (st_set 3 nd (ee_bin op_add4 o_add (ee_var 3) ee_int))))))) (ss_one (st_ret (ee_callTy cr_tuple (opN_one o_tuple) rfl fr.tuple boot_tuple (ea_cons (ee_var 2) ea_nil))))))
theorem c_is_within (fr : Fr mg) (F : FunD K "is_within" "is_within" (defArgs (top 2)) (defBody (top 2)) (defScope (top 2)) [] [] f fd) (m : mg "is_within" = some (.ref f)) (C_is_integer : Cal P w K mg base 1 "is_integer" ["value"] (defArgs (top 1)) (defBody (top 1)) (defScope (top 1)) f_is_integer)  : Cal P w K mg base 2 "is_within" ["value", "least", "most"] (defArgs (top 2)) (defBody (top 2)) (defScope (top 2)) f_is_within := by
  refine ⟨f, fd, fnF F sc_is_within fun cdv A outer sh H E hg hr G => ?_, m, F⟩
  have hu := room65 hr
  have hu64 := room64 hr
  have hu10 := room10 hr
  have nd := sc_is_within.nd
  exact (ss_one (st_ret (ee_and (ee_fn C_is_integer hr hg bn_is_integer (ea_cons (ee_var 0) ea_nil)) (ee_one (ee_chain op_le op_le (o_cmpI _) (o_cmpI _) (ee_var 1) (ee_var 0) (ee_var 2))))))
theorem c_order_of (fr : Fr mg) (F : FunD K "order_of" "order_of" (defArgs (top 18)) (defBody (top 18)) (defScope (top 18)) [] [] f fd) (m : mg "order_of" = some (.ref f)) (C_rounds_of : Cal P w K mg base 1 "rounds_of" ["bells"] (defArgs (top 15)) (defBody (top 15)) (defScope (top 15)) f_rounds_of) (C_times : Cal P w K mg base 1 "times" ["row", "other"] (defArgs (top 16)) (defBody (top 16)) (defScope (top 16)) f_times)  : Cal P w K mg base 2 "order_of" ["row"] (defArgs (top 18)) (defBody (top 18)) (defScope (top 18)) f_order_of := by
  refine ⟨f, fd, fnF F sc_order_of fun cdv A outer sh H E hg hr G => ?_, m, F⟩
  have hu := room65 hr
  have hu64 := room64 hr
  have hu10 := room10 hr
  have nd := sc_order_of.nd
  exact (ss_cons (st_par3 1 2 3 rfl nd (ea_cons ee_int (ea_cons (ee_var 0) (ea_cons (ee_fn C_rounds_of hr hg bn_rounds_of (ea_cons (ee_callB cr_len (opN_one o_len) rfl fr.len boot_len (ea_cons (ee_var 0) ea_nil)) ea_nil)) ea_nil))) rfl) (ss_cons (st_while 1000 PassesOwn.never (tt_cmp (op_neD hu64) o_ne (ee_var 2) (ee_var 3) (by first | exact nobehind _ (by decide) (by decide) | rfl)) (ss_one (st_par2 1 2 rfl nd (ea_cons (ee_bin op_add4 o_add (ee_var 1) ee_int) (ea_cons (ee_fn C_times hr hg bn_times (ea_cons (ee_var 2) (ea_cons (ee_var 0) ea_nil))) ea_nil)) rfl))) (ss_one (st_retV 1))))
theorem c_change_row (fr : Fr mg) (F : FunD K "change_row" "change_row" (defArgs (top 20)) (defBody (top 20)) (defScope (top 20)) [] [] f fd) (m : mg "change_row" = some (.ref f)) (C_pairs_of : Cal P w K mg base 1 "pairs_of" ["bells", "change"] (defArgs (top 19)) (defBody (top 19)) (defScope (top 19)) f_pairs_of)  : Cal P w K mg base 2 "change_row" ["bells", "change"] (defArgs (top 20)) (defBody (top 20)) (defScope (top 20)) f_change_row := by
  refine ⟨f, fd, fnF F sc_change_row fun cdv A outer sh H E hg hr G => ?_, m, F⟩
  have hu := room65 hr
  have hu64 := room64 hr
  have hu10 := room10 hr
  have nd := sc_change_row.nd
  exact (ss_cons (st_set 2 nd (ee_listRg1 rfl rfl fr.list rfl fr.range (ee_var 0))) (ss_cons (st_for PassesOwn.never rfl (ei_for (ee_fn C_pairs_of hr hg bn_pairs_of (ea_cons (ee_var 0) (ea_cons (ee_var 1) ea_nil)))) (tg_n 3 nd) (ss_one (st_set2 2 2 rfl isl_of isl_of (ee_var 3) (ee_bin op_add4 o_add (ee_var 3) ee_int) (ea_cons (ee_bin op_add4 o_add (ee_var 3) ee_int) (ea_cons (ee_var 3) ea_nil))))) (ss_one (st_ret (ee_callTy cr_tuple (opN_one o_tuple) rfl fr.tuple boot_tuple (ea_cons (ee_var 2) ea_nil))))))
theorem c__law_pick (fr : Fr mg) (F : FunD K "_law_pick" "_law_pick" (defArgs (top 54)) (defBody (top 54)) (defScope (top 54)) [] [] f fd) (m : mg "_law_pick" = some (.ref f)) (C__law_draw : Cal P w K mg base 1 "_law_draw" ["pot", "size"] (defArgs (top 53)) (defBody (top 53)) (defScope (top 53)) f__law_draw)  : Cal P w K mg base 2 "_law_pick" ["pot", "some"] (defArgs (top 54)) (defBody (top 54)) (defScope (top 54)) f__law_pick := by
  refine ⟨f, fd, fnF F sc__law_pick fun cdv A outer sh H E hg hr G => ?_, m, F⟩
  have hu := room65 hr
  have hu64 := room64 hr
  have hu10 := room10 hr
  have nd := sc__law_pick.nd
  exact (ss_one (st_ret (ee_ix (ee_var 1) (ee_fn C__law_draw hr hg bn__law_draw (ea_cons (ee_var 0) (ea_cons (ee_callB cr_len (opN_one o_len) rfl fr.len boot_len (ea_cons (ee_var 1) ea_nil)) ea_nil))))))
theorem c__law_mixed (fr : Fr mg) (F : FunD K "_law_mixed" "_law_mixed" (defArgs (top 55)) (defBody (top 55)) (defScope (top 55)) [] [] f fd) (m : mg "_law_mixed" = some (.ref f)) (C__law_draw : Cal P w K mg base 1 "_law_draw" ["pot", "size"] (defArgs (top 53)) (defBody (top 53)) (defScope (top 53)) f__law_draw)  : Cal P w K mg base 2 "_law_mixed" ["pot", "some"] (defArgs (top 55)) (defBody (top 55)) (defScope (top 55)) f__law_mixed := by
  refine ⟨f, fd, fnF F sc__law_mixed fun cdv A outer sh H E hg hr G => ?_, m, F⟩
  have hu := room65 hr
  have hu64 := room64 hr
  have hu10 := room10 hr
  have nd := sc__law_mixed.nd
  exact (ss_cons (st_par2 2 3 rfl nd (ea_cons (ee_callTy cr_list (opN_one o_list) rfl fr.list boot_list (ea_cons (ee_var 1) ea_nil)) (ea_cons (ee_lst ea_nil) ea_nil)) rfl) (ss_cons (st_while 1000 PassesOwn.never (tt_cmp (op_neD hu64) o_ne (ee_var 2) (ee_lst ea_nil) (by first | exact nobehind _ (by decide) (by decide) | rfl)) (ss_one (st_appendX 3 isl_of (ex_pop 2 isl_of (ea_cons (ee_fn C__law_draw hr hg bn__law_draw (ea_cons (ee_var 0) (ea_cons (ee_callB cr_len (opN_one o_len) rfl fr.len boot_len (ea_cons (ee_var 2) ea_nil)) ea_nil))) ea_nil))))) (ss_one (st_retV 3))))
theorem c__law_lead (fr : Fr mg) (F : FunD K "_law_lead" "_law_lead" (defArgs (top 59)) (defBody (top 59)) (defScope (top 59)) [] [] f fd) (m : mg "_law_lead" = some (.ref f)) (C__law_changed : Cal P w K mg base 1 "_law_changed" ["row", "change"] (defArgs (top 57)) (defBody (top 57)) (defScope (top 57)) f__law_changed)  : Cal P w K mg base 2 "_law_lead" ["method", "head", "call"] (defArgs (top 59)) (defBody (top 59)) (defScope (top 59)) f__law_lead := by
  refine ⟨f, fd, fnF F sc__law_lead fun cdv A outer sh H E hg hr G => ?_, m, F⟩
  have hu := room65 hr
  have hu64 := room64 hr
  have hu10 := room10 hr
  have nd := sc__law_lead.nd
  exact (ss_cons (st_par2 3 4 rfl nd (ea_cons (ee_lst ea_nil) (ea_cons (ee_var 1) ea_nil)) rfl) (ss_cons (st_set 5 nd (ee_ix (ee_bin op_add4 o_add (ee_cut (ee_ix (ee_var 0) ee_int) (eo_some (ee_un un_neg o_neg ee_int)) eo_none) (ee_ix (ee_var 0) ee_int)) (ee_var 2))) (ss_cons (st_for PassesOwn.never rfl (ei_for (ee_bin op_add4 o_add (ee_cut (ee_ix (ee_var 0) ee_int) eo_none (eo_some (ee_un un_neg o_neg ee_int))) (ee_tup (ea_cons (ee_var 5) ea_nil)))) (tg_n 6 nd) (ss_cons (st_append 3 isl_of (ea_cons (ee_var 4) ea_nil)) (ss_one (st_set 4 nd (ee_fn C__law_changed hr hg bn__law_changed (ea_cons (ee_var 4) (ea_cons (ee_var 6) ea_nil))))))) (ss_one (st_frz 4 (st_frz 3 (st_ret (ee_tup (ea_cons (ee_var 3) (ea_cons (ee_var 4) ea_nil))))))))))
theorem c_is_lot (fr : Fr mg) (F : FunD K "is_lot" "is_lot" (defArgs (top 5)) (defBody (top 5)) (defScope (top 5)) [] [] f fd) (m : mg "is_lot" = some (.ref f)) (C_is_within : Cal P w K mg base 2 "is_within" ["value", "least", "most"] (defArgs (top 2)) (defBody (top 2)) (defScope (top 2)) f_is_within) (C_are_rising : Cal P w K mg base 1 "are_rising" ["values"] (defArgs (top 4)) (defBody (top 4)) (defScope (top 4)) f_are_rising)  : Cal P w K mg base 3 "is_lot" ["value", "most"] (defArgs (top 5)) (defBody (top 5)) (defScope (top 5)) f_is_lot := by
  refine ⟨f, fd, fnF F sc_is_lot fun cdv A outer sh H E hg hr G => ?_, m, F⟩
  have hu := room65 hr
  have hu64 := room64 hr
  have hu10 := room10 hr
  have nd := sc_is_lot.nd
  exact (ss_one (st_ret (ee_and (ee_isiX "tuple" (ee_var 0) rfl fr.isinstance rfl fr.tuple boot_tuple) (ee_and (ee_callB (cr_allD rfl) (opN_one (o_foldB _ _ fun _ => rfl)) rfl fr.all boot_all (ea_cons (ee_comp [("one", 2)] rfl nd (ei_comp (ee_var 0)) (show BlkOk ["value", "most", "one"] (defScope (top 5)) _ [("one", 2)] from ⟨rfl, by decide +kernel, by decide +kernel, by decide +kernel, by decide +kernel⟩) (fun _ _ _ _ _ => (tg_n 2 nd)) (fun _ _ _ _ _ => ts_nil) (fun _ _ _ _ _ => (ee_fn C_is_within hr hg bn_is_within (ea_cons (ee_var 2) (ea_cons ee_int (ea_cons (ee_var 1) ea_nil)))))) ea_nil)) (ee_one (ee_fn C_are_rising hr hg bn_are_rising (ea_cons (ee_var 0) ea_nil)))))))
theorem c_is_bells (fr : Fr mg) (F : FunD K "is_bells" "is_bells" (defArgs (top 21)) (defBody (top 21)) (defScope (top 21)) [] [] f fd) (m : mg "is_bells" = some (.ref f)) (C_is_within : Cal P w K mg base 2 "is_within" ["value", "least", "most"] (defArgs (top 2)) (defBody (top 2)) (defScope (top 2)) f_is_within) (hg_LEAST_BELLS : ∃ t, mg "LEAST_BELLS" = some (.int 3 t)) (hg_MOST_BELLS : ∃ t, mg "MOST_BELLS" = some (.int 6 t)) : Cal P w K mg base 3 "is_bells" ["value"] (defArgs (top 21)) (defBody (top 21)) (defScope (top 21)) f_is_bells := by
  obtain ⟨_, gLEAST_BELLS⟩ := hg_LEAST_BELLS
  obtain ⟨_, gMOST_BELLS⟩ := hg_MOST_BELLS
  refine ⟨f, fd, fnF F sc_is_bells fun cdv A outer sh H E hg hr G => ?_, m, F⟩
  have hu := room65 hr
  have hu64 := room64 hr
  have hu10 := room10 hr
  have nd := sc_is_bells.nd
  exact (ss_one (st_ret (ee_fn C_is_within hr hg bn_is_within (ea_cons (ee_var 0) (ea_cons (ee_glob (d := .int 3) (v := .int 3) rfl gLEAST_BELLS ⟨_, rfl⟩) (ea_cons (ee_glob (d := .int 6) (v := .int 6) rfl gMOST_BELLS ⟨_, rfl⟩) ea_nil))))))
theorem c_is_row_of (fr : Fr mg) (F : FunD K "is_row_of" "is_row_of" (defArgs (top 22)) (defBody (top 22)) (defScope (top 22)) [] [] f fd) (m : mg "is_row_of" = some (.ref f)) (C_is_within : Cal P w K mg base 2 "is_within" ["value", "least", "most"] (defArgs (top 2)) (defBody (top 2)) (defScope (top 2)) f_is_within)  : Cal P w K mg base 3 "is_row_of" ["bells", "value"] (defArgs (top 22)) (defBody (top 22)) (defScope (top 22)) f_is_row_of := by
  refine ⟨f, fd, fnF F sc_is_row_of fun cdv A outer sh H E hg hr G => ?_, m, F⟩
  have hu := room65 hr
  have hu64 := room64 hr
  have hu10 := room10 hr
  have nd := sc_is_row_of.nd
  exact (ss_cons (st_if (PW.pt (tw_or (tt_not (tt_e (ee_isiX "tuple" (ee_var 1) rfl fr.isinstance rfl fr.tuple boot_tuple))) (tw_or (tt_cmp (op_neD hu64) o_ne (ee_callB cr_len (opN_one o_len) rfl fr.len boot_len (ea_cons (ee_var 1) ea_nil)) (ee_var 0) (by first | exact nobehind _ (by decide) (by decide) | rfl)) (tw_or1 (tt_not (tt_e (ee_callB (cr_allD rfl) (opN_one (o_foldB _ _ fun _ => rfl)) rfl fr.all boot_all (ea_cons (ee_comp [("one", 2)] rfl nd (ei_comp (ee_var 1)) (show BlkOk ["bells", "value", "one"] (defScope (top 22)) _ [("one", 2)] from ⟨rfl, by decide +kernel, by decide +kernel, by decide +kernel, by decide +kernel⟩) (fun _ _ _ _ _ => (tg_n 2 nd)) (fun _ _ _ _ _ => ts_nil) (fun _ _ _ _ _ => (ee_fn C_is_within hr hg bn_is_within (ea_cons (ee_var 2) (ea_cons ee_int (ea_cons (ee_bin op_sub o_sub (ee_var 0) ee_int) ea_nil)))))) ea_nil)))))))) (ss_one (st_ret ee_bl)) ss_nil) (ss_one (st_ret (ee_cmp (op_eqD hu64) o_eq (ee_lenSetA rfl hu64 rfl fr.len rfl fr.set (ee_var 1)) (ee_var 0) (by first | exact nobehind _ (by decide) (by decide) | rfl)))))
theorem c_lead_of (fr : Fr mg) (F : FunD K "lead_of" "lead_of" (defArgs (top 31)) (defBody (top 31)) (defScope (top 31)) [] [] f fd) (m : mg "lead_of" = some (.ref f)) (C_rounds_of : Cal P w K mg base 1 "rounds_of" ["bells"] (defArgs (top 15)) (defBody (top 15)) (defScope (top 15)) f_rounds_of) (C_times : Cal P w K mg base 1 "times" ["row", "other"] (defArgs (top 16)) (defBody (top 16)) (defScope (top 16)) f_times) (C_change_row : Cal P w K mg base 2 "change_row" ["bells", "change"] (defArgs (top 20)) (defBody (top 20)) (defScope (top 20)) f_change_row)  : Cal P w K mg base 3 "lead_of" ["method"] (defArgs (top 31)) (defBody (top 31)) (defScope (top 31)) f_lead_of := by
  refine ⟨f, fd, fnF F sc_lead_of fun cdv A outer sh H E hg hr G => ?_, m, F⟩
  have hu := room65 hr
  have hu64 := room64 hr
  have hu10 := room10 hr
  have nd := sc_lead_of.nd
  exact (ss_cons (st_set 1 nd (ee_lst (ea_cons (ee_fn C_rounds_of hr hg bn_rounds_of (ea_cons (ee_ix (ee_var 0) ee_int) ea_nil)) ea_nil))) (ss_cons (st_for PassesOwn.never rfl (ei_for (ee_cut (ee_ix (ee_var 0) ee_int) eo_none (eo_some (ee_un un_neg o_neg ee_int)))) (tg_n 2 nd) (ss_one (st_append 1 isl_of (ea_cons (ee_fn C_times hr hg bn_times (ea_cons (ee_ix (ee_var 1) (ee_un un_neg o_neg ee_int)) (ea_cons (ee_fn C_change_row hr hg bn_change_row (ea_cons (ee_ix (ee_var 0) ee_int) (ea_cons (ee_var 2) ea_nil))) ea_nil))) ea_nil)))) (ss_one (st_retV 1))))
theorem c_want_bell (fr : Fr mg) (F : FunD K "want_bell" "want_bell" (defArgs (top 39)) (defBody (top 39)) (defScope (top 39)) [] [] f fd) (m : mg "want_bell" = some (.ref f)) (C_is_within : Cal P w K mg base 2 "is_within" ["value", "least", "most"] (defArgs (top 2)) (defBody (top 2)) (defScope (top 2)) f_is_within)  : Cal P w K mg base 3 "want_bell" ["method", "bell"] (defArgs (top 39)) (defBody (top 39)) (defScope (top 39)) f_want_bell := by
  refine ⟨f, fd, fnF F sc_want_bell fun cdv A outer sh H E hg hr G => ?_, m, F⟩
  have hu := room65 hr
  have hu64 := room64 hr
  have hu10 := room10 hr
  have nd := sc_want_bell.nd
  exact (ss_one (st_if (tt_not (tt_e (ee_fn C_is_within hr hg bn_is_within (ea_cons (ee_var 1) (ea_cons ee_int (ea_cons (ee_bin op_sub o_sub (ee_ix (ee_var 0) ee_int) ee_int) ea_nil)))))) (ss_one st_never) ss_nil))
theorem c_want_place (fr : Fr mg) (F : FunD K "want_place" "want_place" (defArgs (top 40)) (defBody (top 40)) (defScope (top 40)) [] [] f fd) (m : mg "want_place" = some (.ref f)) (C_is_within : Cal P w K mg base 2 "is_within" ["value", "least", "most"] (defArgs (top 2)) (defBody (top 2)) (defScope (top 2)) f_is_within)  : Cal P w K mg base 3 "want_place" ["method", "place"] (defArgs (top 40)) (defBody (top 40)) (defScope (top 40)) f_want_place := by
  refine ⟨f, fd, fnF F sc_want_place fun cdv A outer sh H E hg hr G => ?_, m, F⟩
  have hu := room65 hr
  have hu64 := room64 hr
  have hu10 := room10 hr
  have nd := sc_want_place.nd
  exact (ss_one (st_if (tt_not (tt_e (ee_fn C_is_within hr hg bn_is_within (ea_cons (ee_var 1) (ea_cons ee_int (ea_cons (ee_bin op_sub o_sub (ee_ix (ee_var 0) ee_int) ee_int) ea_nil)))))) (ss_one st_never) ss_nil))
theorem c__law_method (fr : Fr mg) (F : FunD K "_law_method" "_law_method" (defArgs (top 58)) (defBody (top 58)) (defScope (top 58)) [] [] f fd) (m : mg "_law_method" = some (.ref f)) (C__law_draw : Cal P w K mg base 1 "_law_draw" ["pot", "size"] (defArgs (top 53)) (defBody (top 53)) (defScope (top 53)) f__law_draw) (C__law_changes : Cal P w K mg base 1 "_law_changes" ["bells"] (defArgs (top 56)) (defBody (top 56)) (defScope (top 56)) f__law_changes) (C__law_pick : Cal P w K mg base 2 "_law_pick" ["pot", "some"] (defArgs (top 54)) (defBody (top 54)) (defScope (top 54)) f__law_pick) (C__law_mixed : Cal P w K mg base 2 "_law_mixed" ["pot", "some"] (defArgs (top 55)) (defBody (top 55)) (defScope (top 55)) f__law_mixed)  : Cal P w K mg base 3 "_law_method" ["pot", "least", "most", "long"] (defArgs (top 58)) (defBody (top 58)) (defScope (top 58)) f__law_method := by
  refine ⟨f, fd, fnF F sc__law_method fun cdv A outer sh H E hg hr G => ?_, m, F⟩
  have hu := room65 hr
  have hu64 := room64 hr
  have hu10 := room10 hr
  have nd := sc__law_method.nd
  exact (ss_cons (st_set 4 nd (ee_bin op_add4 o_add (ee_var 1) (ee_fn C__law_draw hr hg bn__law_draw (ea_cons (ee_var 0) (ea_cons (ee_bin op_add4 o_add (ee_bin op_sub o_sub (ee_var 2) (ee_var 1)) ee_int) ea_nil))))) (ss_cons (st_parT2 5 6 rfl nd (ea_cons (ee_fn C__law_changes hr hg bn__law_changes (ea_cons (ee_var 4) ea_nil)) (ea_cons (ee_fn C__law_draw hr hg bn__law_draw (ea_cons (ee_var 0) (ea_cons ee_int ea_nil))) ea_nil))) (ss_cons (st_set 7 nd (ee_bin op_add4 o_add ee_int (ee_fn C__law_draw hr hg bn__law_draw (ea_cons (ee_var 0) (ea_cons (ee_var 3) ea_nil))))) (ss_cons (st_if (tt_cmp (op_eqD hu64) o_eq (ee_var 6) ee_int (by first | exact nobehind _ (by decide) (by decide) | rfl)) (ss_cons (st_setC [("turn", 13)] 8 rfl nd rfl (ei_range1C rfl fr.range (ea_cons (ee_bin op_add4 o_add ee_int (ee_bin op_fdiv o_fdiv (ee_var 7) ee_int)) ea_nil)) (show BlkOk ["pot", "least", "most", "long", "bells", "every", "way", "many", "half", "changes", "near", "far", "left", "turn", "one"] (defScope (top 58)) _ [("turn", 13)] from ⟨rfl, by decide +kernel, by decide +kernel, by decide +kernel, by decide +kernel⟩) (fun _ _ _ _ _ => (tg_n 13 nd)) (fun _ _ _ _ _ => ts_nil) (fun _ _ _ _ _ => (ee_fn C__law_pick hr hg bn__law_pick (ea_cons (ee_var 0) (ea_cons (ee_var 5) ea_nil))))) (ss_one (st_set 9 nd (ee_bin op_add4 o_add (ee_bin op_add4 o_add (ee_var 8) (ee_revX (ee_cut (ee_var 8) eo_none (eo_some (ee_un un_neg o_neg ee_int))))) (ee_lst (ea_cons (ee_fn C__law_pick hr hg bn__law_pick (ea_cons (ee_var 0) (ea_cons (ee_var 5) ea_nil))) ea_nil)))))) (ss_one (st_if (tt_cmp (op_eqD hu64) o_eq (ee_var 6) ee_int (by first | exact nobehind _ (by decide) (by decide) | rfl)) (ss_cons (st_parT2 10 11 rfl nd (ea_cons (ee_fn C__law_pick hr hg bn__law_pick (ea_cons (ee_var 0) (ea_cons (ee_var 5) ea_nil))) (ea_cons (ee_fn C__law_pick hr hg bn__law_pick (ea_cons (ee_var 0) (ea_cons (ee_var 5) ea_nil))) ea_nil))) (ss_one (st_set 9 nd (ee_comp [("turn", 13)] rfl nd (ei_range1C rfl fr.range (ea_cons (ee_bin op_add4 o_add (ee_var 7) ee_int) ea_nil)) (show BlkOk ["pot", "least", "most", "long", "bells", "every", "way", "many", "half", "changes", "near", "far", "left", "turn", "one"] (defScope (top 58)) _ [("turn", 13)] from ⟨rfl, by decide +kernel, by decide +kernel, by decide +kernel, by decide +kernel⟩) (fun _ _ _ _ _ => (tg_n 13 nd)) (fun _ _ _ _ _ => ts_nil) (fun _ _ _ _ _ => (ee_if (tt_cmp (op_eqD hu64) o_eq (ee_bin op_mod o_mod (ee_callTy cr_int (opN_one o_int) rfl fr.int boot_int (ea_cons (ee_var 13) ea_nil)) ee_int) ee_int (by first | exact nobehind _ (by decide) (by decide) | rfl)) (ee_var 10) (ee_var 11))))))) (ss_one (st_set 9 nd (ee_comp [("turn", 13)] rfl nd (ei_range1C rfl fr.range (ea_cons (ee_var 7) ea_nil)) (show BlkOk ["pot", "least", "most", "long", "bells", "every", "way", "many", "half", "changes", "near", "far", "left", "turn", "one"] (defScope (top 58)) _ [("turn", 13)] from ⟨rfl, by decide +kernel, by decide +kernel, by decide +kernel, by decide +kernel⟩) (fun _ _ _ _ _ => (tg_n 13 nd)) (fun _ _ _ _ _ => ts_nil) (fun _ _ _ _ _ => (ee_fn C__law_pick hr hg bn__law_pick (ea_cons (ee_var 0) (ea_cons (ee_var 5) ea_nil)))))))))) (ss_cons (st_set 12 nd (ee_fn C__law_mixed hr hg bn__law_mixed (ea_cons (ee_var 0) (ea_cons (ee_comp [("one", 14)] rfl nd (ei_comp (ee_var 5)) (show BlkOk ["pot", "least", "most", "long", "bells", "every", "way", "many", "half", "changes", "near", "far", "left", "turn", "one"] (defScope (top 58)) _ [("one", 14)] from ⟨rfl, by decide +kernel, by decide +kernel, by decide +kernel, by decide +kernel⟩) (fun _ _ _ _ _ => (tg_n 14 nd)) (fun _ _ _ _ _ => (ts_one (tt_cmp (op_neD hu64) o_ne (ee_var 14) (ee_ix (ee_var 9) (ee_un un_neg o_neg ee_int)) (by first | exact nobehind _ (by decide) (by decide) | rfl)))) (fun _ _ _ _ _ => (ee_var 14))) ea_nil)))) (ss_one (st_frz 4 (st_ret (ee_tup (ea_cons ee_str (ea_cons (ee_var 4) (ea_cons (ee_callTy cr_tuple (opN_one o_tuple) rfl fr.tuple boot_tuple (ea_cons (ee_var 9) ea_nil)) (ea_cons (ee_callTy cr_tuple (opN_one o_tuple) rfl fr.tuple boot_tuple (ea_cons (ee_cut (ee_cut (ee_var 12) eo_none (eo_some (ee_fn C__law_draw hr hg bn__law_draw (ea_cons (ee_var 0) (ea_cons (ee_bin op_add4 o_add (ee_callB (cr_min2 rfl) (opN_two (o_intI _)) rfl fr.min boot_min (ea_cons ee_int (ea_cons (ee_callB (cr_max2 rfl) (opN_two (o_intI _)) rfl fr.max boot_max (ea_cons ee_int (ea_cons (ee_bin op_add4 o_add (ee_callB cr_len (opN_one o_len) rfl fr.len boot_len (ea_cons (ee_var 12) ea_nil)) ee_int) ea_nil))) ea_nil))) ee_int) ea_nil))))) eo_none (eo_some ee_int)) ea_nil)) ea_nil)))))))))))))
theorem c__law_course (fr : Fr mg) (F : FunD K "_law_course" "_law_course" (defArgs (top 60)) (defBody (top 60)) (defScope (top 60)) [] [] f fd) (m : mg "_law_course" = some (.ref f)) (C__law_lead : Cal P w K mg base 2 "_law_lead" ["method", "head", "call"] (defArgs (top 59)) (defBody (top 59)) (defScope (top 59)) f__law_lead)  : Cal P w K mg base 3 "_law_course" ["method", "call"] (defArgs (top 60)) (defBody (top 60)) (defScope (top 60)) f__law_course := by
  refine ⟨f, fd, fnF F sc__law_course fun cdv A outer sh H E hg hr G => ?_, m, F⟩
  have hu := room65 hr
  have hu64 := room64 hr
  have hu10 := room10 hr
  have nd := sc__law_course.nd
  exact (ss_cons (st_set 2 nd (ee_tupRg1 rfl rfl fr.tuple rfl fr.range (ee_ix (ee_var 0) ee_int))) (ss_cons (st_par3 3 4 5 rfl nd (ea_cons (ee_lst ea_nil) (ea_cons (ee_lst ea_nil) (ea_cons (ee_var 2) ea_nil))) rfl) (ss_cons (st_for PassesOwn.never rfl (ei_range1 rfl fr.range (ea_cons ee_int ea_nil)) (tg_n 6 nd) (ss_one (st_if (PW.pt (tw_or (tt_cmp (op_eqD hu64) o_eq (ee_var 4) (ee_lst ea_nil) (by first | exact nobehind _ (by decide) (by decide) | rfl)) (tw_or1 (tt_cmp (op_neD hu64) o_ne (ee_var 5) (ee_var 2) (by first | exact nobehind _ (by decide) (by decide) | rfl))))) (ss_cons (st_asgT (ee_fn C__law_lead hr hg bn__law_lead (ea_cons (ee_var 0) (ea_cons (ee_var 5) (ea_cons (ee_var 1) ea_nil)))) (tg_t rfl (tg_cons (tg_n 7 nd) (tg_cons (tg_n 8 nd) tg_nil)))) (ss_one (st_par3 3 4 5 rfl nd (ea_cons (ee_bin op_add4 o_add (ee_var 3) (ee_var 7)) (ea_cons (ee_bin op_add4 o_add (ee_var 4) (ee_lst (ea_cons (ee_var 5) ea_nil))) (ea_cons (ee_var 8) ea_nil))) rfl))) ss_nil))) (ss_one (st_frz 4 (st_frz 3 (st_ret (ee_tup (ea_cons (ee_var 3) (ea_cons (ee_var 4) ea_nil))))))))))
theorem c_is_change_of (fr : Fr mg) (F : FunD K "is_change_of" "is_change_of" (defArgs (top 23)) (defBody (top 23)) (defScope (top 23)) [] [] f fd) (m : mg "is_change_of" = some (.ref f)) (C_is_lot : Cal P w K mg base 3 "is_lot" ["value", "most"] (defArgs (top 5)) (defBody (top 5)) (defScope (top 5)) f_is_lot) (C_pairs_of : Cal P w K mg base 1 "pairs_of" ["bells", "change"] (defArgs (top 19)) (defBody (top 19)) (defScope (top 19)) f_pairs_of)  : Cal P w K mg base 4 "is_change_of" ["bells", "value"] (defArgs (top 23)) (defBody (top 23)) (defScope (top 23)) f_is_change_of := by
  refine ⟨f, fd, fnF F sc_is_change_of fun cdv A outer sh H E hg hr G => ?_, m, F⟩
  have hu := room65 hr
  have hu64 := room64 hr
  have hu10 := room10 hr
  have nd := sc_is_change_of.nd
  exact (ss_cons (st_if (PW.pt (tw_or (tt_not (tt_e (ee_fn C_is_lot hr hg bn_is_lot (ea_cons (ee_var 1) (ea_cons (ee_bin op_sub o_sub (ee_var 0) ee_int) ea_nil))))) (tw_or1 (tt_cmp (op_eqD hu64) o_eq (ee_callB cr_len (opN_one o_len) rfl fr.len boot_len (ea_cons (ee_var 1) ea_nil)) (ee_var 0) (by first | exact nobehind _ (by decide) (by decide) | rfl))))) (ss_one (st_ret ee_bl)) ss_nil) (ss_one (st_ret (ee_cmp op_notN o_notN (ee_fn C_pairs_of hr hg bn_pairs_of (ea_cons (ee_var 0) (ea_cons (ee_var 1) ea_nil))) ee_non (by first | exact nobehind _ (by decide) (by decide) | rfl)))))
theorem c_want_row (fr : Fr mg) (F : FunD K "want_row" "want_row" (defArgs (top 24)) (defBody (top 24)) (defScope (top 24)) [] [] f fd) (m : mg "want_row" = some (.ref f)) (C_is_row_of : Cal P w K mg base 3 "is_row_of" ["bells", "value"] (defArgs (top 22)) (defBody (top 22)) (defScope (top 22)) f_is_row_of)  : Cal P w K mg base 4 "want_row" ["bells", "row"] (defArgs (top 24)) (defBody (top 24)) (defScope (top 24)) f_want_row := by
  refine ⟨f, fd, fnF F sc_want_row fun cdv A outer sh H E hg hr G => ?_, m, F⟩
  have hu := room65 hr
  have hu64 := room64 hr
  have hu10 := room10 hr
  have nd := sc_want_row.nd
  exact (ss_one (st_if (tt_not (tt_e (ee_fn C_is_row_of hr hg bn_is_row_of (ea_cons (ee_var 0) (ea_cons (ee_var 1) ea_nil))))) (ss_one st_never) ss_nil))
theorem c_turns_of (fr : Fr mg) (F : FunD K "turns_of" "turns_of" (defArgs (top 32)) (defBody (top 32)) (defScope (top 32)) [] [] f fd) (m : mg "turns_of" = some (.ref f)) (C_lead_of : Cal P w K mg base 3 "lead_of" ["method"] (defArgs (top 31)) (defBody (top 31)) (defScope (top 31)) f_lead_of) (C_times : Cal P w K mg base 1 "times" ["row", "other"] (defArgs (top 16)) (defBody (top 16)) (defScope (top 16)) f_times) (C_change_row : Cal P w K mg base 2 "change_row" ["bells", "change"] (defArgs (top 20)) (defBody (top 20)) (defScope (top 20)) f_change_row)  : Cal P w K mg base 4 "turns_of" ["method"] (defArgs (top 32)) (defBody (top 32)) (defScope (top 32)) f_turns_of := by
  refine ⟨f, fd, fnF F sc_turns_of fun cdv A outer sh H E hg hr G => ?_, m, F⟩
  have hu := room65 hr
  have hu64 := room64 hr
  have hu10 := room10 hr
  have nd := sc_turns_of.nd
  exact (ss_cons (st_set 1 nd (ee_ix (ee_fn C_lead_of hr hg bn_lead_of (ea_cons (ee_var 0) ea_nil)) (ee_un un_neg o_neg ee_int))) (ss_one (st_ret (ee_callTy cr_tuple (opN_one o_tuple) rfl fr.tuple boot_tuple (ea_cons (ee_comp [("change", 2)] rfl nd (ei_comp (ee_bin op_add4 o_add (ee_cut (ee_ix (ee_var 0) ee_int) (eo_some (ee_un un_neg o_neg ee_int)) eo_none) (ee_ix (ee_var 0) ee_int))) (show BlkOk ["method", "last", "change"] (defScope (top 32)) _ [("change", 2)] from ⟨rfl, by decide +kernel, by decide +kernel, by decide +kernel, by decide +kernel⟩) (fun _ _ _ _ _ => (tg_n 2 nd)) (fun _ _ _ _ _ => ts_nil) (fun _ _ _ _ _ => (ee_fn C_times hr hg bn_times (ea_cons (ee_var 1) (ea_cons (ee_fn C_change_row hr hg bn_change_row (ea_cons (ee_ix (ee_var 0) ee_int) (ea_cons (ee_var 2) ea_nil))) ea_nil))))) ea_nil)))))
theorem c_path_of (fr : Fr mg) (F : FunD K "path_of" "path_of" (defArgs (top 41)) (defBody (top 41)) (defScope (top 41)) [] [] f fd) (m : mg "path_of" = some (.ref f)) (C_lead_of : Cal P w K mg base 3 "lead_of" ["method"] (defArgs (top 31)) (defBody (top 31)) (defScope (top 31)) f_lead_of)  : Cal P w K mg base 4 "path_of" ["method", "place"] (defArgs (top 41)) (defBody (top 41)) (defScope (top 41)) f_path_of := by
  refine ⟨f, fd, fnF F sc_path_of fun cdv A outer sh H E hg hr G => ?_, m, F⟩
  have hu := room65 hr
  have hu64 := room64 hr
  have hu10 := room10 hr
  have nd := sc_path_of.nd
  exact (ss_one (st_ret (ee_comp [("row", 2)] rfl nd (ei_comp (ee_fn C_lead_of hr hg bn_lead_of (ea_cons (ee_var 0) ea_nil))) (show BlkOk ["method", "place", "row"] (defScope (top 41)) _ [("row", 2)] from ⟨rfl, by decide +kernel, by decide +kernel, by decide +kernel, by decide +kernel⟩) (fun _ _ _ _ _ => (tg_n 2 nd)) (fun _ _ _ _ _ => ts_nil) (fun _ _ _ _ _ => (ee_idx hu (ee_var 2) (ea_cons (ee_var 1) ea_nil))))))
theorem c_is_method_any (fr : Fr mg) (F : FunD K "is_method_any" "is_method_any" (defArgs (top 29)) (defBody (top 29)) (defScope (top 29)) [] [] f fd) (m : mg "is_method_any" = some (.ref f)) (C_is_tuple : Cal P w K mg base 1 "is_tuple" ["value", "many"] (defArgs (top 3)) (defBody (top 3)) (defScope (top 3)) f_is_tuple) (C_is_bells : Cal P w K mg base 3 "is_bells" ["value"] (defArgs (top 21)) (defBody (top 21)) (defScope (top 21)) f_is_bells) (C_is_change_of : Cal P w K mg base 4 "is_change_of" ["bells", "value"] (defArgs (top 23)) (defBody (top 23)) (defScope (top 23)) f_is_change_of) (hg_METHOD : ∃ t, mg "METHOD" = some (.str "method" t)) (hg_MOST_IN_LEAD : ∃ t, mg "MOST_IN_LEAD" = some (.int 40 t)) (hg_MOST_CALLS : ∃ t, mg "MOST_CALLS" = some (.int 3 t)) : Cal P w K mg base 5 "is_method_any" ["value"] (defArgs (top 29)) (defBody (top 29)) (defScope (top 29)) f_is_method_any := by
  obtain ⟨_, gMETHOD⟩ := hg_METHOD
  obtain ⟨_, gMOST_IN_LEAD⟩ := hg_MOST_IN_LEAD
  obtain ⟨_, gMOST_CALLS⟩ := hg_MOST_CALLS
  refine ⟨f, fd, fnF F sc_is_method_any fun cdv A outer sh H E hg hr G => ?_, m, F⟩
  have hu := room65 hr
  have hu64 := room64 hr
  have hu10 := room10 hr
  have nd := sc_is_method_any.nd
  exact (ss_cons (st_if (PW.pt (tw_or (tt_not (tt_e (ee_fn C_is_tuple hr hg bn_is_tuple (ea_cons (ee_var 0) (ea_cons ee_int ea_nil))))) (tw_or (tt_not (tt_e (ee_isiX "str" (ee_ix (ee_var 0) ee_int) rfl fr.isinstance rfl fr.str boot_str))) (tw_or (tt_cmp (op_neD hu64) o_ne (ee_ix (ee_var 0) ee_int) (ee_glob (d := .str "method") (v := .str "method") rfl gMETHOD ⟨_, rfl⟩) (by first | exact nobehind _ (by decide) (by decide) | rfl)) (tw_or1 (tt_not (tt_e (ee_fn C_is_bells hr hg bn_is_bells (ea_cons (ee_ix (ee_var 0) ee_int) ea_nil))))))))) (ss_one (st_ret ee_bl)) ss_nil) (ss_cons (st_asgT (ee_var 0) (tg_t rfl (tg_cons (tg_n 1 nd) (tg_cons (tg_n 2 nd) (tg_cons (tg_n 3 nd) (tg_cons (tg_n 4 nd) tg_nil)))))) (ss_cons (st_if (PW.pt (tw_or (tt_not (tt_e (ee_isiX "tuple" (ee_var 3) rfl fr.isinstance rfl fr.tuple boot_tuple))) (tw_or1 (tt_not (tt_chain op_le op_le (o_cmpI _) (o_cmpI _) ee_int (ee_callB cr_len (opN_one o_len) rfl fr.len boot_len (ea_cons (ee_var 3) ea_nil)) (ee_glob (d := .int 40) (v := .int 40) rfl gMOST_IN_LEAD ⟨_, rfl⟩)))))) (ss_one (st_ret ee_bl)) ss_nil) (ss_cons (st_if (PW.pt (tw_or (tt_not (tt_e (ee_isiX "tuple" (ee_var 4) rfl fr.isinstance rfl fr.tuple boot_tuple))) (tw_or1 (tt_cmp op_gt (o_cmpI _) (ee_callB cr_len (opN_one o_len) rfl fr.len boot_len (ea_cons (ee_var 4) ea_nil)) (ee_glob (d := .int 3) (v := .int 3) rfl gMOST_CALLS ⟨_, rfl⟩) (by first | exact nobehind _ (by decide) (by decide) | rfl))))) (ss_one (st_ret ee_bl)) ss_nil) (ss_cons (st_if (tt_not (tt_e (ee_callB (cr_allD rfl) (opN_one (o_foldB _ _ fun _ => rfl)) rfl fr.all boot_all (ea_cons (ee_comp [("one", 5)] rfl nd (ei_comp (ee_bin op_add4 o_add (ee_var 3) (ee_var 4))) (show BlkOk ["value", "word", "bells", "changes", "calls", "one"] (defScope (top 29)) _ [("one", 5)] from ⟨rfl, by decide +kernel, by decide +kernel, by decide +kernel, by decide +kernel⟩) (fun _ _ _ _ _ => (tg_n 5 nd)) (fun _ _ _ _ _ => ts_nil) (fun _ _ _ _ _ => (ee_fn C_is_change_of hr hg bn_is_change_of (ea_cons (ee_var 2) (ea_cons (ee_var 5) ea_nil))))) ea_nil)))) (ss_one (st_ret ee_bl)) ss_nil) (ss_one (st_ret (ee_cmp (op_eqD hu64) o_eq (ee_lenSetA rfl hu64 rfl fr.len rfl fr.set (ee_bin op_add4 o_add (ee_var 4) (ee_cut (ee_var 3) (eo_some (ee_un un_neg o_neg ee_int)) eo_none))) (ee_bin op_add4 o_add (ee_callB cr_len (opN_one o_len) rfl fr.len boot_len (ea_cons (ee_var 4) ea_nil)) ee_int) (by first | exact nobehind _ (by decide) (by decide) | rfl)))))))))
theorem c_heads_of (fr : Fr mg) (F : FunD K "heads_of" "heads_of" (defArgs (top 34)) (defBody (top 34)) (defScope (top 34)) [] [] f fd) (m : mg "heads_of" = some (.ref f)) (C_turns_of : Cal P w K mg base 4 "turns_of" ["method"] (defArgs (top 32)) (defBody (top 32)) (defScope (top 32)) f_turns_of) (C_rounds_of : Cal P w K mg base 1 "rounds_of" ["bells"] (defArgs (top 15)) (defBody (top 15)) (defScope (top 15)) f_rounds_of) (C_times : Cal P w K mg base 1 "times" ["row", "other"] (defArgs (top 16)) (defBody (top 16)) (defScope (top 16)) f_times)  : Cal P w K mg base 5 "heads_of" ["method", "touch"] (defArgs (top 34)) (defBody (top 34)) (defScope (top 34)) f_heads_of := by
  refine ⟨f, fd, fnF F sc_heads_of fun cdv A outer sh H E hg hr G => ?_, m, F⟩
  have hu := room65 hr
  have hu64 := room64 hr
  have hu10 := room10 hr
  have nd := sc_heads_of.nd
  exact (ss_cons (st_par2 2 3 rfl nd (ea_cons (ee_fn C_turns_of hr hg bn_turns_of (ea_cons (ee_var 0) ea_nil)) (ea_cons (ee_lst (ea_cons (ee_fn C_rounds_of hr hg bn_rounds_of (ea_cons (ee_ix (ee_var 0) ee_int) ea_nil)) ea_nil)) ea_nil)) rfl) (ss_cons (st_for PassesOwn.never rfl (ei_for (ee_var 1)) (tg_n 4 nd) (ss_one (st_append 3 isl_of (ea_cons (ee_fn C_times hr hg bn_times (ea_cons (ee_ix (ee_var 3) (ee_un un_neg o_neg ee_int)) (ea_cons (ee_ix (ee_var 2) (ee_var 4)) ea_nil))) ea_nil)))) (ss_one (st_retV 3))))
theorem c_course_of (fr : Fr mg) (F : FunD K "course_of" "course_of" (defArgs (top 36)) (defBody (top 36)) (defScope (top 36)) [] [] f fd) (m : mg "course_of" = some (.ref f)) (C_order_of : Cal P w K mg base 2 "order_of" ["row"] (defArgs (top 18)) (defBody (top 18)) (defScope (top 18)) f_order_of) (C_turns_of : Cal P w K mg base 4 "turns_of" ["method"] (defArgs (top 32)) (defBody (top 32)) (defScope (top 32)) f_turns_of)  : Cal P w K mg base 5 "course_of" ["method", "call"] (defArgs (top 36)) (defBody (top 36)) (defScope (top 36)) f_course_of := by
  refine ⟨f, fd, fnF F sc_course_of fun cdv A outer sh H E hg hr G => ?_, m, F⟩
  have hu := room65 hr
  have hu64 := room64 hr
  have hu10 := room10 hr
  have nd := sc_course_of.nd
  exact (ss_one (st_ret (ee_bin op_mul5 o_mulT (ee_lst (ea_cons (ee_var 1) ea_nil)) (ee_fn C_order_of hr hg bn_order_of (ea_cons (ee_ix (ee_fn C_turns_of hr hg bn_turns_of (ea_cons (ee_var 0) ea_nil)) (ee_var 1)) ea_nil)))))
theorem c_order_places (fr : Fr mg) (F : FunD K "order_places" "order_places" (defArgs (top 43)) (defBody (top 43)) (defScope (top 43)) [] [] f fd) (m : mg "order_places" = some (.ref f)) (C_inverse_of : Cal P w K mg base 1 "inverse_of" ["row"] (defArgs (top 17)) (defBody (top 17)) (defScope (top 17)) f_inverse_of) (C_turns_of : Cal P w K mg base 4 "turns_of" ["method"] (defArgs (top 32)) (defBody (top 32)) (defScope (top 32)) f_turns_of)  : Cal P w K mg base 5 "order_places" ["method", "bell"] (defArgs (top 43)) (defBody (top 43)) (defScope (top 43)) f_order_places := by
  refine ⟨f, fd, fnF F sc_order_places fun cdv A outer sh H E hg hr G => ?_, m, F⟩
  have hu := room65 hr
  have hu64 := room64 hr
  have hu10 := room10 hr
  have nd := sc_order_places.nd
  exact (ss_cons (st_par2 2 3 rfl nd (ea_cons (ee_fn C_inverse_of hr hg bn_inverse_of (ea_cons (ee_ix (ee_fn C_turns_of hr hg bn_turns_of (ea_cons (ee_var 0) ea_nil)) ee_int) ea_nil)) (ea_cons (ee_lst (ea_cons (ee_var 1) ea_nil)) ea_nil)) rfl) (ss_cons (st_while 1000 PassesOwn.never (tt_cmp (op_neD hu64) o_ne (ee_ix (ee_var 2) (ee_ix (ee_var 3) (ee_un un_neg o_neg ee_int))) (ee_var 1) (by first | exact nobehind _ (by decide) (by decide) | rfl)) (ss_one (st_append 3 isl_of (ea_cons (ee_ix (ee_var 2) (ee_ix (ee_var 3) (ee_un un_neg o_neg ee_int))) ea_nil)))) (ss_one (st_retV 3))))
theorem c_want_method (fr : Fr mg) (F : FunD K "want_method" "want_method" (defArgs (top 30)) (defBody (top 30)) (defScope (top 30)) [] [] f fd) (m : mg "want_method" = some (.ref f)) (C_is_method_any : Cal P w K mg base 5 "is_method_any" ["value"] (defArgs (top 29)) (defBody (top 29)) (defScope (top 29)) f_is_method_any)  : Cal P w K mg base 6 "want_method" ["method"] (defArgs (top 30)) (defBody (top 30)) (defScope (top 30)) f_want_method := by
  refine ⟨f, fd, fnF F sc_want_method fun cdv A outer sh H E hg hr G => ?_, m, F⟩
  have hu := room65 hr
  have hu64 := room64 hr
  have hu10 := room10 hr
  have nd := sc_want_method.nd
  exact (ss_one (st_if (tt_not (tt_e (ee_fn C_is_method_any hr hg bn_is_method_any (ea_cons (ee_var 0) ea_nil)))) (ss_one st_never) ss_nil))
theorem c_heads_told (fr : Fr mg) (F : FunD K "heads_told" "heads_told" (defArgs (top 37)) (defBody (top 37)) (defScope (top 37)) [] [] f fd) (m : mg "heads_told" = some (.ref f)) (C_heads_of : Cal P w K mg base 5 "heads_of" ["method", "touch"] (defArgs (top 34)) (defBody (top 34)) (defScope (top 34)) f_heads_of) (C_course_of : Cal P w K mg base 5 "course_of" ["method", "call"] (defArgs (top 36)) (defBody (top 36)) (defScope (top 36)) f_course_of)  : Cal P w K mg base 6 "heads_told" ["method", "call"] (defArgs (top 37)) (defBody (top 37)) (defScope (top 37)) f_heads_told := by
  refine ⟨f, fd, fnF F sc_heads_told fun cdv A outer sh H E hg hr G => ?_, m, F⟩
  have hu := room65 hr
  have hu64 := room64 hr
  have hu10 := room10 hr
  have nd := sc_heads_told.nd
  exact (ss_one (st_ret (ee_cut (ee_fn C_heads_of hr hg bn_heads_of (ea_cons (ee_var 0) (ea_cons (ee_fn C_course_of hr hg bn_course_of (ea_cons (ee_var 0) (ea_cons (ee_var 1) ea_nil))) ea_nil))) eo_none (eo_some (ee_un un_neg o_neg ee_int)))))
theorem c_work_of (fr : Fr mg) (F : FunD K "work_of" "work_of" (defArgs (top 42)) (defBody (top 42)) (defScope (top 42)) [] [] f fd) (m : mg "work_of" = some (.ref f)) (C_heads_told : Cal P w K mg base 6 "heads_told" ["method", "call"] (defArgs (top 37)) (defBody (top 37)) (defScope (top 37)) f_heads_told) (C_path_of : Cal P w K mg base 4 "path_of" ["method", "place"] (defArgs (top 41)) (defBody (top 41)) (defScope (top 41)) f_path_of)  : Cal P w K mg base 7 "work_of" ["method", "bell"] (defArgs (top 42)) (defBody (top 42)) (defScope (top 42)) f_work_of := by
  refine ⟨f, fd, fnF F sc_work_of fun cdv A outer sh H E hg hr G => ?_, m, F⟩
  have hu := room65 hr
  have hu64 := room64 hr
  have hu10 := room10 hr
  have nd := sc_work_of.nd
  exact (ss_cons (st_set 2 nd (ee_lst ea_nil)) (ss_cons (st_for PassesOwn.never rfl (ei_for (ee_fn C_heads_told hr hg bn_heads_told (ea_cons (ee_var 0) (ea_cons ee_int ea_nil)))) (tg_n 3 nd) (ss_one (st_extend 2 isl_of (ea_cons (ee_fn C_path_of hr hg bn_path_of (ea_cons (ee_var 0) (ea_cons (ee_idx hu (ee_var 3) (ea_cons (ee_var 1) ea_nil)) ea_nil))) ea_nil)))) (ss_one (st_retV 2))))
theorem c_path (fr : Fr mg) (F : FunD K "path" "path" (defArgs (top 44)) (defBody (top 44)) (defScope (top 44)) [] [] f fd) (m : mg "path" = some (.ref f)) (C_want_method : Cal P w K mg base 6 "want_method" ["method"] (defArgs (top 30)) (defBody (top 30)) (defScope (top 30)) f_want_method) (C_want_place : Cal P w K mg base 3 "want_place" ["method", "place"] (defArgs (top 40)) (defBody (top 40)) (defScope (top 40)) f_want_place) (C_path_of : Cal P w K mg base 4 "path_of" ["method", "place"] (defArgs (top 41)) (defBody (top 41)) (defScope (top 41)) f_path_of)  : Cal P w K mg base 7 "path" ["method", "place"] (defArgs (top 44)) (defBody (top 44)) (defScope (top 44)) f_path := by
  refine ⟨f, fd, fnF F sc_path fun cdv A outer sh H E hg hr G => ?_, m, F⟩
  have hu := room65 hr
  have hu64 := room64 hr
  have hu10 := room10 hr
  have nd := sc_path.nd
  exact (ss_cons (st_expr (ee_fn C_want_method hr hg bn_want_method (ea_cons (ee_var 0) ea_nil))) (ss_cons (st_expr (ee_fn C_want_place hr hg bn_want_place (ea_cons (ee_var 0) (ea_cons (ee_var 1) ea_nil)))) (ss_one (st_ret (ee_fn C_path_of hr hg bn_path_of (ea_cons (ee_var 0) (ea_cons (ee_var 1) ea_nil)))))))
theorem c_path_from (fr : Fr mg) (F : FunD K "path_from" "path_from" (defArgs (top 45)) (defBody (top 45)) (defScope (top 45)) [] [] f fd) (m : mg "path_from" = some (.ref f)) (C_want_method : Cal P w K mg base 6 "want_method" ["method"] (defArgs (top 30)) (defBody (top 30)) (defScope (top 30)) f_want_method) (C_want_row : Cal P w K mg base 4 "want_row" ["bells", "row"] (defArgs (top 24)) (defBody (top 24)) (defScope (top 24)) f_want_row) (C_want_bell : Cal P w K mg base 3 "want_bell" ["method", "bell"] (defArgs (top 39)) (defBody (top 39)) (defScope (top 39)) f_want_bell) (C_path_of : Cal P w K mg base 4 "path_of" ["method", "place"] (defArgs (top 41)) (defBody (top 41)) (defScope (top 41)) f_path_of)  : Cal P w K mg base 7 "path_from" ["method", "row", "bell"] (defArgs (top 45)) (defBody (top 45)) (defScope (top 45)) f_path_from := by
  refine ⟨f, fd, fnF F sc_path_from fun cdv A outer sh H E hg hr G => ?_, m, F⟩
  have hu := room65 hr
  have hu64 := room64 hr
  have hu10 := room10 hr
  have nd := sc_path_from.nd
  exact (ss_cons (st_expr (ee_fn C_want_method hr hg bn_want_method (ea_cons (ee_var 0) ea_nil))) (ss_cons (st_expr (ee_fn C_want_row hr hg bn_want_row (ea_cons (ee_ix (ee_var 0) ee_int) (ea_cons (ee_var 1) ea_nil)))) (ss_cons (st_expr (ee_fn C_want_bell hr hg bn_want_bell (ea_cons (ee_var 0) (ea_cons (ee_var 2) ea_nil)))) (ss_one (st_ret (ee_fn C_path_of hr hg bn_path_of (ea_cons (ee_var 0) (ea_cons (ee_idx hu (ee_var 1) (ea_cons (ee_var 2) ea_nil)) ea_nil))))))))
theorem c_lead_places (fr : Fr mg) (F : FunD K "lead_places" "lead_places" (defArgs (top 47)) (defBody (top 47)) (defScope (top 47)) [] [] f fd) (m : mg "lead_places" = some (.ref f)) (C_want_method : Cal P w K mg base 6 "want_method" ["method"] (defArgs (top 30)) (defBody (top 30)) (defScope (top 30)) f_want_method) (C_want_bell : Cal P w K mg base 3 "want_bell" ["method", "bell"] (defArgs (top 39)) (defBody (top 39)) (defScope (top 39)) f_want_bell) (C_order_places : Cal P w K mg base 5 "order_places" ["method", "bell"] (defArgs (top 43)) (defBody (top 43)) (defScope (top 43)) f_order_places)  : Cal P w K mg base 7 "lead_places" ["method", "bell"] (defArgs (top 47)) (defBody (top 47)) (defScope (top 47)) f_lead_places := by
  refine ⟨f, fd, fnF F sc_lead_places fun cdv A outer sh H E hg hr G => ?_, m, F⟩
  have hu := room65 hr
  have hu64 := room64 hr
  have hu10 := room10 hr
  have nd := sc_lead_places.nd
  exact (ss_cons (st_expr (ee_fn C_want_method hr hg bn_want_method (ea_cons (ee_var 0) ea_nil))) (ss_cons (st_expr (ee_fn C_want_bell hr hg bn_want_bell (ea_cons (ee_var 0) (ea_cons (ee_var 1) ea_nil)))) (ss_one (st_ret (ee_fn C_order_places hr hg bn_order_places (ea_cons (ee_var 0) (ea_cons (ee_var 1) ea_nil)))))))
theorem c_same_work (fr : Fr mg) (F : FunD K "same_work" "same_work" (defArgs (top 48)) (defBody (top 48)) (defScope (top 48)) [] [] f fd) (m : mg "same_work" = some (.ref f)) (C_want_method : Cal P w K mg base 6 "want_method" ["method"] (defArgs (top 30)) (defBody (top 30)) (defScope (top 30)) f_want_method) (C_order_places : Cal P w K mg base 5 "order_places" ["method", "bell"] (defArgs (top 43)) (defBody (top 43)) (defScope (top 43)) f_order_places)  : Cal P w K mg base 7 "same_work" ["method"] (defArgs (top 48)) (defBody (top 48)) (defScope (top 48)) f_same_work := by
  refine ⟨f, fd, fnF F sc_same_work fun cdv A outer sh H E hg hr G => ?_, m, F⟩
  have hu := room65 hr
  have hu64 := room64 hr
  have hu10 := room10 hr
  have nd := sc_same_work.nd
  exact (ss_cons (st_expr (ee_fn C_want_method hr hg bn_want_method (ea_cons (ee_var 0) ea_nil))) (ss_one (st_ret (ee_sortSetO rfl hu64 hu10 rfl fr.sorted rfl fr.set (ee_comp [("bell", 1)] rfl nd (ei_range1C rfl fr.range (ea_cons (ee_ix (ee_var 0) ee_int) ea_nil)) (show BlkOk ["method", "bell"] (defScope (top 48)) _ [("bell", 1)] from ⟨rfl, by decide +kernel, by decide +kernel, by decide +kernel, by decide +kernel⟩) (fun _ _ _ _ _ => (tg_n 1 nd)) (fun _ _ _ _ _ => ts_nil) (fun _ _ _ _ _ => (ee_callTy cr_tuple (opN_one o_tuple) rfl fr.tuple boot_tuple (ea_cons (ee_callB (cr_sorted3 hu10) (opN_one o_sortedX) rfl fr.sorted boot_sorted (ea_cons (ee_fn C_order_places hr hg bn_order_places (ea_cons (ee_var 0) (ea_cons (ee_var 1) ea_nil))) ea_nil)) ea_nil))))))))
theorem c_leads_behind (fr : Fr mg) (F : FunD K "leads_behind" "leads_behind" (defArgs (top 49)) (defBody (top 49)) (defScope (top 49)) [] [] f fd) (m : mg "leads_behind" = some (.ref f)) (C_want_method : Cal P w K mg base 6 "want_method" ["method"] (defArgs (top 30)) (defBody (top 30)) (defScope (top 30)) f_want_method) (C_want_bell : Cal P w K mg base 3 "want_bell" ["method", "bell"] (defArgs (top 39)) (defBody (top 39)) (defScope (top 39)) f_want_bell) (C_order_places : Cal P w K mg base 5 "order_places" ["method", "bell"] (defArgs (top 43)) (defBody (top 43)) (defScope (top 43)) f_order_places)  : Cal P w K mg base 7 "leads_behind" ["method", "bell", "further"] (defArgs (top 49)) (defBody (top 49)) (defScope (top 49)) f_leads_behind := by
  refine ⟨f, fd, fnF F sc_leads_behind fun cdv A outer sh H E hg hr G => ?_, m, F⟩
  have hu := room65 hr
  have hu64 := room64 hr
  have hu10 := room10 hr
  have nd := sc_leads_behind.nd
  exact (ss_cons (st_expr (ee_fn C_want_method hr hg bn_want_method (ea_cons (ee_var 0) ea_nil))) (ss_cons (st_expr (ee_fn C_want_bell hr hg bn_want_bell (ea_cons (ee_var 0) (ea_cons (ee_var 1) ea_nil)))) (ss_cons (st_expr (ee_fn C_want_bell hr hg bn_want_bell (ea_cons (ee_var 0) (ea_cons (ee_var 2) ea_nil)))) (ss_cons (st_set 3 nd (ee_fn C_order_places hr hg bn_order_places (ea_cons (ee_var 0) (ea_cons (ee_var 1) ea_nil)))) (ss_one (st_ret (ee_if (tt_cmp (op_inA hu) (o_inA false) (ee_var 2) (ee_var 3) (by first | exact nobehind _ (by decide) (by decide) | rfl)) (ee_idx hu (ee_var 3) (ea_cons (ee_var 2) ea_nil)) ee_non)))))))
theorem c_crossings (fr : Fr mg) (F : FunD K "crossings" "crossings" (defArgs (top 50)) (defBody (top 50)) (defScope (top 50)) [] [] f fd) (m : mg "crossings" = some (.ref f)) (C_want_method : Cal P w K mg base 6 "want_method" ["method"] (defArgs (top 30)) (defBody (top 30)) (defScope (top 30)) f_want_method) (C_want_bell : Cal P w K mg base 3 "want_bell" ["method", "bell"] (defArgs (top 39)) (defBody (top 39)) (defScope (top 39)) f_want_bell) (C_path_of : Cal P w K mg base 4 "path_of" ["method", "place"] (defArgs (top 41)) (defBody (top 41)) (defScope (top 41)) f_path_of) (C_inverse_of : Cal P w K mg base 1 "inverse_of" ["row"] (defArgs (top 17)) (defBody (top 17)) (defScope (top 17)) f_inverse_of) (C_turns_of : Cal P w K mg base 4 "turns_of" ["method"] (defArgs (top 32)) (defBody (top 32)) (defScope (top 32)) f_turns_of)  : Cal P w K mg base 7 "crossings" ["method", "bell", "further"] (defArgs (top 50)) (defBody (top 50)) (defScope (top 50)) f_crossings := by
  refine ⟨f, fd, fnF F sc_crossings fun cdv A outer sh H E hg hr G => ?_, m, F⟩
  have hu := room65 hr
  have hu64 := room64 hr
  have hu10 := room10 hr
  have nd := sc_crossings.nd
  exact (ss_cons (st_expr (ee_fn C_want_method hr hg bn_want_method (ea_cons (ee_var 0) ea_nil))) (ss_cons (st_expr (ee_fn C_want_bell hr hg bn_want_bell (ea_cons (ee_var 0) (ea_cons (ee_var 1) ea_nil)))) (ss_cons (st_expr (ee_fn C_want_bell hr hg bn_want_bell (ea_cons (ee_var 0) (ea_cons (ee_var 2) ea_nil)))) (ss_cons (st_par2 3 4 rfl nd (ea_cons (ee_fn C_path_of hr hg bn_path_of (ea_cons (ee_var 0) (ea_cons (ee_var 1) ea_nil))) (ea_cons (ee_fn C_path_of hr hg bn_path_of (ea_cons (ee_var 0) (ea_cons (ee_var 2) ea_nil))) ea_nil)) rfl) (ss_cons (st_set 5 nd (ee_fn C_inverse_of hr hg bn_inverse_of (ea_cons (ee_ix (ee_fn C_turns_of hr hg bn_turns_of (ea_cons (ee_var 0) ea_nil)) ee_int) ea_nil))) (ss_cons (st_par2 3 4 rfl nd (ea_cons (ee_bin op_add4 o_add (ee_var 3) (ee_lst (ea_cons (ee_ix (ee_var 5) (ee_var 1)) ea_nil))) (ea_cons (ee_bin op_add4 o_add (ee_var 4) (ee_lst (ea_cons (ee_ix (ee_var 5) (ee_var 2)) ea_nil))) ea_nil)) rfl) (ss_cons (st_set 6 nd (ee_lst ea_nil)) (ss_cons (st_for PassesOwn.never rfl (ei_range1 rfl fr.range (ea_cons (ee_callB cr_len (opN_one o_len) rfl fr.len boot_len (ea_cons (ee_ix (ee_var 0) ee_int) ea_nil)) ea_nil)) (tg_n 7 nd) (ss_one (st_if (PW.pt (tw_and (tt_cmp (op_neD hu64) o_ne (ee_var 1) (ee_var 2) (by first | exact nobehind _ (by decide) (by decide) | rfl)) (tw_and1 (tt_cmp (op_eqD hu64) o_eq (ee_tup (ea_cons (ee_ix (ee_var 3) (ee_var 7)) (ea_cons (ee_ix (ee_var 4) (ee_var 7)) ea_nil))) (ee_tup (ea_cons (ee_ix (ee_var 4) (ee_bin op_add4 o_add (ee_var 7) ee_int)) (ea_cons (ee_ix (ee_var 3) (ee_bin op_add4 o_add (ee_var 7) ee_int)) ea_nil))) (by first | exact nobehind _ (by decide) (by decide) | rfl))))) (ss_one (st_append 6 isl_of (ea_cons (ee_var 7) ea_nil))) ss_nil))) (ss_one (st_retV 6))))))))))
theorem c_work (fr : Fr mg) (F : FunD K "work" "work" (defArgs (top 46)) (defBody (top 46)) (defScope (top 46)) [] [] f fd) (m : mg "work" = some (.ref f)) (C_want_method : Cal P w K mg base 6 "want_method" ["method"] (defArgs (top 30)) (defBody (top 30)) (defScope (top 30)) f_want_method) (C_want_bell : Cal P w K mg base 3 "want_bell" ["method", "bell"] (defArgs (top 39)) (defBody (top 39)) (defScope (top 39)) f_want_bell) (C_work_of : Cal P w K mg base 7 "work_of" ["method", "bell"] (defArgs (top 42)) (defBody (top 42)) (defScope (top 42)) f_work_of)  : Cal P w K mg base 8 "work" ["method", "bell"] (defArgs (top 46)) (defBody (top 46)) (defScope (top 46)) f_work := by
  refine ⟨f, fd, fnF F sc_work fun cdv A outer sh H E hg hr G => ?_, m, F⟩
  have hu := room65 hr
  have hu64 := room64 hr
  have hu10 := room10 hr
  have nd := sc_work.nd
  exact (ss_cons (st_expr (ee_fn C_want_method hr hg bn_want_method (ea_cons (ee_var 0) ea_nil))) (ss_cons (st_expr (ee_fn C_want_bell hr hg bn_want_bell (ea_cons (ee_var 0) (ea_cons (ee_var 1) ea_nil)))) (ss_one (st_ret (ee_fn C_work_of hr hg bn_work_of (ea_cons (ee_var 0) (ea_cons (ee_var 1) ea_nil)))))))
theorem c__law_bells_right (fr : Fr mg) (F : FunD K "_law_bells_right" "_law_bells_right" (defArgs (top 61)) (defBody (top 61)) (defScope (top 61)) [] [] f fd) (m : mg "_law_bells_right" = some (.ref f)) (C_work : Cal P w K mg base 8 "work" ["method", "bell"] (defArgs (top 46)) (defBody (top 46)) (defScope (top 46)) f_work) (C_lead_places : Cal P w K mg base 7 "lead_places" ["method", "bell"] (defArgs (top 47)) (defBody (top 47)) (defScope (top 47)) f_lead_places) (C_same_work : Cal P w K mg base 7 "same_work" ["method"] (defArgs (top 48)) (defBody (top 48)) (defScope (top 48)) f_same_work) (C__law_draw : Cal P w K mg base 1 "_law_draw" ["pot", "size"] (defArgs (top 53)) (defBody (top 53)) (defScope (top 53)) f__law_draw) (C_leads_behind : Cal P w K mg base 7 "leads_behind" ["method", "bell", "further"] (defArgs (top 49)) (defBody (top 49)) (defScope (top 49)) f_leads_behind)  : Cal P w K mg base 9 "_law_bells_right" ["pot", "method", "rows", "heads"] (defArgs (top 61)) (defBody (top 61)) (defScope (top 61)) f__law_bells_right := by
  refine ⟨f, fd, fnF F sc__law_bells_right fun cdv A outer sh H E hg hr G => ?_, m, F⟩
  have hu := room65 hr
  have hu64 := room64 hr
  have hu10 := room10 hr
  have nd := sc__law_bells_right.nd
  exact (ss_cons (st_par2 4 5 rfl nd (ea_cons (ee_callB cr_len (opN_one o_len) rfl fr.len boot_len (ea_cons (ee_ix (ee_var 1) ee_int) ea_nil)) (ea_cons (ee_ix (ee_var 1) ee_int) ea_nil)) rfl) (ss_cons (st_par2 6 7 rfl nd (ea_cons (ee_lst ea_nil) (ea_cons (ee_comp [("bell", 8)] rfl nd (ei_range1C rfl fr.range (ea_cons (ee_var 5) ea_nil)) (show BlkOk ["pot", "method", "rows", "heads", "many", "bells", "lots", "works", "bell", "begins", "head", "told", "turn", "further", "some", "due", "late", "row"] (defScope (top 61)) _ [("bell", 8)] from ⟨rfl, by decide +kernel, by decide +kernel, by decide +kernel, by decide +kernel⟩) (fun _ _ _ _ _ => (tg_n 8 nd)) (fun _ _ _ _ _ => ts_nil) (fun _ _ _ _ _ => (ee_comp [("row", 17)] rfl nd (ei_comp (ee_var 2)) (Dn.blkOk_of (N' := ["pot", "method", "rows", "heads", "many", "bells", "lots", "works", "bell", "begins", "head", "told", "turn", "further", "some", "due", "late", "row"]) (sc' := { kind := PySem.ScopeKind.function, names := [ (PySem.Str.ofString ".0", PySem.NameKind.local), (PySem.Str.ofString "bell", PySem.NameKind.cell), (PySem.Str.ofString "rows", PySem.NameKind.cell)], isGenerator := false, isCoroutine := false, more := [] : PySem.Scope }) ⟨rfl, by decide +kernel, by decide +kernel, by decide +kernel, by decide +kernel⟩ rfl rfl) (fun _ _ _ _ _ => (tg_n 17 nd)) (fun _ _ _ _ _ => ts_nil) (fun _ _ _ _ _ => (ee_idx hu (ee_var 17) (ea_cons (ee_var 8) ea_nil)))))) ea_nil)) rfl) (ss_cons (st_for PassesOwn.never rfl (ei_range1 rfl fr.range (ea_cons (ee_var 5) ea_nil)) (tg_n 8 nd) (ss_cons (st_set 9 nd (ee_lst ea_nil)) (ss_cons (st_for PassesOwn.never rfl (ei_for (ee_var 3)) (tg_n 10 nd) (ss_one (st_if (tt_cmp (op_notInA hu) (o_inA true) (ee_idx hu (ee_var 10) (ea_cons (ee_var 8) ea_nil)) (ee_var 9) (by first | exact nobehind _ (by decide) (by decide) | rfl)) (ss_one (st_append 9 isl_of (ea_cons (ee_idx hu (ee_var 10) (ea_cons (ee_var 8) ea_nil)) ea_nil))) ss_nil))) (ss_cons (st_set 11 nd (ee_lst (ea_cons (ee_fn C_work hr hg bn_work (ea_cons (ee_var 1) (ea_cons (ee_var 8) ea_nil))) (ea_cons (ee_fn C_lead_places hr hg bn_lead_places (ea_cons (ee_var 1) (ea_cons (ee_var 8) ea_nil))) ea_nil)))) (ss_cons (st_if (tt_cmp (op_neD hu64) o_ne (ee_callB (cr_reprX hg hu) (opN_one o_reprX) rfl fr.repr boot_repr (ea_cons (ee_lst (ea_cons (ee_var 11) (ea_cons (ee_lst (ea_cons (ee_fnK [1, 0] ["bell", "method"] C_work hr hg (fun _ _ _ _ _ _ us hl => match us, hl with | [_, _], _ => rfl) (ek_cons (ee_var 8) (ek_cons (ee_var 1) ek_nil))) (ea_cons (ee_fnK [1, 0] ["bell", "method"] C_lead_places hr hg (fun _ _ _ _ _ _ us hl => match us, hl with | [_, _], _ => rfl) (ek_cons (ee_var 8) (ek_cons (ee_var 1) ek_nil))) ea_nil))) ea_nil))) ea_nil)) (ee_callB (cr_reprX hg hu) (opN_one o_reprX) rfl fr.repr boot_repr (ea_cons (ee_bin op_mul5 o_mulT (ee_lst (ea_cons (ee_lst (ea_cons (ee_ix (ee_var 7) (ee_var 8)) (ea_cons (ee_var 9) ea_nil))) ea_nil)) ee_int) ea_nil)) (by first | exact nobehind _ (by decide) (by decide) | rfl)) (ss_one (st_ret ee_bl)) ss_nil) (ss_poke2 11 0 1 isl_of (ss_cons (st_if (tt_cmp (op_neD hu64) o_ne (ee_callB (cr_reprX hg hu) (opN_one o_reprX) rfl fr.repr boot_repr (ea_cons (ee_lst (ea_cons (ee_fn C_work hr hg bn_work (ea_cons (ee_var 1) (ea_cons (ee_var 8) ea_nil))) (ea_cons (ee_fn C_lead_places hr hg bn_lead_places (ea_cons (ee_var 1) (ea_cons (ee_var 8) ea_nil))) ea_nil))) ea_nil)) (ee_callB (cr_reprX hg hu) (opN_one o_reprX) rfl fr.repr boot_repr (ea_cons (ee_lst (ea_cons (ee_ix (ee_var 7) (ee_var 8)) (ea_cons (ee_var 9) ea_nil))) ea_nil)) (by first | exact nobehind _ (by decide) (by decide) | rfl)) (ss_one (st_ret ee_bl)) ss_nil) (ss_one (st_append 6 isl_of (ea_cons (ee_callTy cr_tuple (opN_one o_tuple) rfl fr.tuple boot_tuple (ea_cons (ee_callB (cr_sorted3 hu10) (opN_one o_sortedX) rfl fr.sorted boot_sorted (ea_cons (ee_var 9) ea_nil)) ea_nil)) ea_nil)))))))))) (ss_cons (st_if (tt_cmp (op_neD hu64) o_ne (ee_callB (cr_reprX hg hu) (opN_one o_reprX) rfl fr.repr boot_repr (ea_cons (ee_lst (ea_cons (ee_fn C_same_work hr hg bn_same_work (ea_cons (ee_var 1) ea_nil)) (ea_cons (ee_fnK [0] ["method"] C_same_work hr hg (fun _ _ _ _ _ _ us hl => match us, hl with | [_], _ => rfl) (ek_cons (ee_var 1) ek_nil)) ea_nil))) ea_nil)) (ee_callB (cr_reprX hg hu) (opN_one o_reprX) rfl fr.repr boot_repr (ea_cons (ee_bin op_mul5 o_mulT (ee_lst (ea_cons (ee_sortSetO rfl hu64 hu10 rfl fr.sorted rfl fr.set (ee_var 6)) ea_nil)) ee_int) ea_nil)) (by first | exact nobehind _ (by decide) (by decide) | rfl)) (ss_one (st_ret ee_bl)) ss_nil) (ss_cons (st_for PassesOwn.never rfl (ei_range1 rfl fr.range (ea_cons ee_int ea_nil)) (tg_n 12 nd) (ss_cons (st_parT2 8 13 rfl nd (ea_cons (ee_fn C__law_draw hr hg bn__law_draw (ea_cons (ee_var 0) (ea_cons (ee_var 5) ea_nil))) (ea_cons (ee_fn C__law_draw hr hg bn__law_draw (ea_cons (ee_var 0) (ea_cons (ee_var 5) ea_nil))) ea_nil))) (ss_cons (st_setC [("late", 16)] 14 rfl nd rfl (ei_range1C rfl fr.range (ea_cons (ee_callB cr_len (opN_one o_len) rfl fr.len boot_len (ea_cons (ee_var 3) ea_nil)) ea_nil)) (show BlkOk ["pot", "method", "rows", "heads", "many", "bells", "lots", "works", "bell", "begins", "head", "told", "turn", "further", "some", "due", "late", "row"] (defScope (top 61)) _ [("late", 16)] from ⟨rfl, by decide +kernel, by decide +kernel, by decide +kernel, by decide +kernel⟩) (fun _ _ _ _ _ => (tg_n 16 nd)) (fun _ _ _ _ _ => (ts_one (tt_cmp (op_eqD hu64) o_eq (ee_idx hu (ee_ix (ee_var 3) (ee_var 16)) (ea_cons (ee_var 8) ea_nil)) (ee_var 13) (by first | exact nobehind _ (by decide) (by decide) | rfl)))) (fun _ _ _ _ _ => (ee_var 16))) (ss_cons (st_set 15 nd (ee_if (tt_cmp (op_neD hu64) o_ne (ee_var 14) (ee_lst ea_nil) (by first | exact nobehind _ (by decide) (by decide) | rfl)) (ee_ix (ee_var 14) ee_int) ee_non)) (ss_cons (st_if (tt_cmp (op_neD hu64) o_ne (ee_callB (cr_reprX hg hu) (opN_one o_reprX) rfl fr.repr boot_repr (ea_cons (ee_lst (ea_cons (ee_fn C_leads_behind hr hg bn_leads_behind (ea_cons (ee_var 1) (ea_cons (ee_var 8) (ea_cons (ee_var 13) ea_nil)))) (ea_cons (ee_fnK [2, 1, 0] ["further", "bell", "method"] C_leads_behind hr hg (fun _ _ _ _ _ _ us hl => match us, hl with | [_, _, _], _ => rfl) (ek_cons (ee_var 13) (ek_cons (ee_var 8) (ek_cons (ee_var 1) ek_nil)))) ea_nil))) ea_nil)) (ee_callB (cr_reprX hg hu) (opN_one o_reprX) rfl fr.repr boot_repr (ea_cons (ee_lst (ea_cons (ee_var 15) (ea_cons (ee_var 15) ea_nil))) ea_nil)) (by first | exact nobehind _ (by decide) (by decide) | rfl)) (ss_one (st_ret ee_bl)) ss_nil) (ss_one (st_if (PW.pt (tw_and (tt_cmp op_notN o_notN (ee_var 15) ee_non (by first | exact nobehind _ (by decide) (by decide) | rfl)) (tw_and1 (tt_cmp (op_neD hu64) o_ne (ee_bin op_add4 o_add (ee_cut (ee_ix (ee_var 7) (ee_var 8)) (eo_some (ee_bin op_mul5 o_mulT (ee_var 15) (ee_var 4))) eo_none) (ee_cut (ee_ix (ee_var 7) (ee_var 8)) eo_none (eo_some (ee_bin op_mul5 o_mulT (ee_var 15) (ee_var 4))))) (ee_ix (ee_var 7) (ee_var 13)) (by first | exact nobehind _ (by decide) (by decide) | rfl))))) (ss_one (st_ret ee_bl)) ss_nil))))))) (ss_one (st_ret ee_bl)))))))
theorem c__law_right (fr : Fr mg) (F : FunD K "_law_right" "_law_right" (defArgs (top 62)) (defBody (top 62)) (defScope (top 62)) [] [] f fd) (m : mg "_law_right" = some (.ref f)) (C__law_method : Cal P w K mg base 3 "_law_method" ["pot", "least", "most", "long"] (defArgs (top 58)) (defBody (top 58)) (defScope (top 58)) f__law_method) (C__law_lead : Cal P w K mg base 2 "_law_lead" ["method", "head", "call"] (defArgs (top 59)) (defBody (top 59)) (defScope (top 59)) f__law_lead) (C_path : Cal P w K mg base 7 "path" ["method", "place"] (defArgs (top 44)) (defBody (top 44)) (defScope (top 44)) f_path) (C__law_mixed : Cal P w K mg base 2 "_law_mixed" ["pot", "some"] (defArgs (top 55)) (defBody (top 55)) (defScope (top 55)) f__law_mixed) (C__law_draw : Cal P w K mg base 1 "_law_draw" ["pot", "size"] (defArgs (top 53)) (defBody (top 53)) (defScope (top 53)) f__law_draw) (C_path_from : Cal P w K mg base 7 "path_from" ["method", "row", "bell"] (defArgs (top 45)) (defBody (top 45)) (defScope (top 45)) f_path_from) (C__law_course : Cal P w K mg base 3 "_law_course" ["method", "call"] (defArgs (top 60)) (defBody (top 60)) (defScope (top 60)) f__law_course) (C__law_bells_right : Cal P w K mg base 9 "_law_bells_right" ["pot", "method", "rows", "heads"] (defArgs (top 61)) (defBody (top 61)) (defScope (top 61)) f__law_bells_right) (C_crossings : Cal P w K mg base 7 "crossings" ["method", "bell", "further"] (defArgs (top 50)) (defBody (top 50)) (defScope (top 50)) f_crossings)  : Cal P w K mg base 10 "_law_right" ["pot", "least", "most"] (defArgs (top 62)) (defBody (top 62)) (defScope (top 62)) f__law_right := by
  refine ⟨f, fd, fnF F sc__law_right fun cdv A outer sh H E hg hr G => ?_, m, F⟩
  have hu := room65 hr
  have hu64 := room64 hr
  have hu10 := room10 hr
  have nd := sc__law_right.nd
  exact (ss_cons (st_set 3 nd (ee_fn C__law_method hr hg bn__law_method (ea_cons (ee_var 0) (ea_cons (ee_var 1) (ea_cons (ee_var 2) (ea_cons ee_int ea_nil)))))) (ss_cons (st_par2 4 5 rfl nd (ea_cons (ee_ix (ee_var 3) ee_int) (ea_cons (ee_callB (cr_reprX hg hu) (opN_one o_reprX) rfl fr.repr boot_repr (ea_cons (ee_var 3) ea_nil)) ea_nil)) rfl) (ss_cons (st_set 6 nd (ee_tupRg1 rfl rfl fr.tuple rfl fr.range (ee_var 4))) (ss_cons (st_asgT (ee_fn C__law_lead hr hg bn__law_lead (ea_cons (ee_var 3) (ea_cons (ee_var 6) (ea_cons ee_int ea_nil)))) (tg_t rfl (tg_cons (tg_n 7 nd) (tg_cons (tg_n 8 nd) tg_nil)))) (ss_cons (st_setC [("place", 18)] 9 rfl nd rfl (ei_comp (ee_var 6)) (show BlkOk ["pot", "least", "most", "method", "bells", "shown", "rounds", "lead", "late", "paths", "head", "bell", "due", "rows", "heads", "near", "far", "every", "place", "here", "there", "told", "row"] (defScope (top 62)) _ [("place", 18)] from ⟨rfl, by decide +kernel, by decide +kernel, by decide +kernel, by decide +kernel⟩) (fun _ _ _ _ _ => (tg_n 18 nd)) (fun _ _ _ _ _ => ts_nil) (fun _ _ _ _ _ => (ee_comp [("row", 22)] rfl nd (ei_comp (ee_var 7)) (Dn.blkOk_of (N' := ["pot", "least", "most", "method", "bells", "shown", "rounds", "lead", "late", "paths", "head", "bell", "due", "rows", "heads", "near", "far", "every", "place", "here", "there", "told", "row"]) (sc' := { kind := PySem.ScopeKind.function, names := [ (PySem.Str.ofString ".0", PySem.NameKind.local), (PySem.Str.ofString "place", PySem.NameKind.cell), (PySem.Str.ofString "lead", PySem.NameKind.cell)], isGenerator := false, isCoroutine := false, more := [] : PySem.Scope }) ⟨rfl, by decide +kernel, by decide +kernel, by decide +kernel, by decide +kernel⟩ rfl rfl) (fun _ _ _ _ _ => (tg_n 22 nd)) (fun _ _ _ _ _ => ts_nil) (fun _ _ _ _ _ => (ee_idx hu (ee_var 22) (ea_cons (ee_var 18) ea_nil)))))) (ss_cons (st_if (tt_cmp (op_neD hu64) o_ne (ee_callB (cr_reprX hg hu) (opN_one o_reprX) rfl fr.repr boot_repr (ea_cons (ee_lst (ea_cons (ee_comp [("place", 18)] rfl nd (ei_comp (ee_var 6)) (show BlkOk ["pot", "least", "most", "method", "bells", "shown", "rounds", "lead", "late", "paths", "head", "bell", "due", "rows", "heads", "near", "far", "every", "place", "here", "there", "told", "row"] (defScope (top 62)) _ [("place", 18)] from ⟨rfl, by decide +kernel, by decide +kernel, by decide +kernel, by decide +kernel⟩) (fun _ _ _ _ _ => (tg_n 18 nd)) (fun _ _ _ _ _ => ts_nil) (fun _ _ _ _ _ => (ee_fn C_path hr hg bn_path (ea_cons (ee_var 3) (ea_cons (ee_var 18) ea_nil))))) (ea_cons (ee_comp [("place", 18)] rfl nd (ei_comp (ee_var 6)) (show BlkOk ["pot", "least", "most", "method", "bells", "shown", "rounds", "lead", "late", "paths", "head", "bell", "due", "rows", "heads", "near", "far", "every", "place", "here", "there", "told", "row"] (defScope (top 62)) _ [("place", 18)] from ⟨rfl, by decide +kernel, by decide +kernel, by decide +kernel, by decide +kernel⟩) (fun _ _ _ _ _ => (tg_n 18 nd)) (fun _ _ _ _ _ => ts_nil) (fun _ _ _ _ _ => (ee_fnK [1, 0] ["place", "method"] C_path hr hg (fun _ _ _ _ _ _ us hl => match us, hl with | [_, _], _ => rfl) (ek_cons (ee_var 18) (ek_cons (ee_var 3) ek_nil))))) ea_nil))) ea_nil)) (ee_callB (cr_reprX hg hu) (opN_one o_reprX) rfl fr.repr boot_repr (ea_cons (ee_lst (ea_cons (ee_var 9) (ea_cons (ee_var 9) ea_nil))) ea_nil)) (by first | exact nobehind _ (by decide) (by decide) | rfl)) (ss_one (st_ret ee_bl)) ss_nil) (ss_cons (st_parT2 10 11 rfl nd (ea_cons (ee_callTy cr_tuple (opN_one o_tuple) rfl fr.tuple boot_tuple (ea_cons (ee_fn C__law_mixed hr hg bn__law_mixed (ea_cons (ee_var 0) (ea_cons (ee_callTy cr_list (opN_one o_list) rfl fr.list boot_list (ea_cons (ee_var 6) ea_nil)) ea_nil))) ea_nil)) (ea_cons (ee_fn C__law_draw hr hg bn__law_draw (ea_cons (ee_var 0) (ea_cons (ee_var 4) ea_nil))) ea_nil))) (ss_cons (st_setC [("row", 22)] 12 rfl nd rfl (ei_comp (ee_ix (ee_fn C__law_lead hr hg bn__law_lead (ea_cons (ee_var 3) (ea_cons (ee_var 10) (ea_cons ee_int ea_nil)))) ee_int)) (show BlkOk ["pot", "least", "most", "method", "bells", "shown", "rounds", "lead", "late", "paths", "head", "bell", "due", "rows", "heads", "near", "far", "every", "place", "here", "there", "told", "row"] (defScope (top 62)) _ [("row", 22)] from ⟨rfl, by decide +kernel, by decide +kernel, by decide +kernel, by decide +kernel⟩) (fun _ _ _ _ _ => (tg_n 22 nd)) (fun _ _ _ _ _ => ts_nil) (fun _ _ _ _ _ => (ee_idx hu (ee_var 22) (ea_cons (ee_var 11) ea_nil)))) (ss_cons (st_if (tt_cmp (op_neD hu64) o_ne (ee_callB (cr_reprX hg hu) (opN_one o_reprX) rfl fr.repr boot_repr (ea_cons (ee_lst (ea_cons (ee_fn C_path_from hr hg bn_path_from (ea_cons (ee_var 3) (ea_cons (ee_var 10) (ea_cons (ee_var 11) ea_nil)))) (ea_cons (ee_fnK [2, 1, 0] ["bell", "row", "method"] C_path_from hr hg (fun _ _ _ _ _ _ us hl => match us, hl with | [_, _, _], _ => rfl) (ek_cons (ee_var 11) (ek_cons (ee_var 10) (ek_cons (ee_var 3) ek_nil)))) ea_nil))) ea_nil)) (ee_callB (cr_reprX hg hu) (opN_one o_reprX) rfl fr.repr boot_repr (ea_cons (ee_lst (ea_cons (ee_var 12) (ea_cons (ee_var 12) ea_nil))) ea_nil)) (by first | exact nobehind _ (by decide) (by decide) | rfl)) (ss_one (st_ret ee_bl)) ss_nil) (ss_cons (st_asgT (ee_fn C__law_course hr hg bn__law_course (ea_cons (ee_var 3) (ea_cons ee_int ea_nil))) (tg_t rfl (tg_cons (tg_n 13 nd) (tg_cons (tg_n 14 nd) tg_nil)))) (ss_cons (st_if (tt_not (tt_e (ee_fn C__law_bells_right hr hg bn__law_bells_right (ea_cons (ee_var 0) (ea_cons (ee_var 3) (ea_cons (ee_var 13) (ea_cons (ee_var 14) ea_nil))))))) (ss_one (st_ret ee_bl)) ss_nil) (ss_cons (st_par3 15 16 17 rfl nd (ea_cons (ee_fn C__law_draw hr hg bn__law_draw (ea_cons (ee_var 0) (ea_cons (ee_var 4) ea_nil))) (ea_cons (ee_fn C__law_draw hr hg bn__law_draw (ea_cons (ee_var 0) (ea_cons (ee_var 4) ea_nil))) (ea_cons (ee_bin op_add4 o_add (ee_var 7) (ee_lst (ea_cons (ee_var 8) ea_nil))) ea_nil))) rfl) (ss_cons (st_set 12 nd (ee_lst ea_nil)) (ss_cons (st_for PassesOwn.never rfl (ei_range1 rfl fr.range (ea_cons (ee_callB cr_len (opN_one o_len) rfl fr.len boot_len (ea_cons (ee_var 7) ea_nil)) ea_nil)) (tg_n 18 nd) (ss_cons (st_par2 19 20 rfl nd (ea_cons (ee_ix (ee_var 17) (ee_var 18)) (ea_cons (ee_ix (ee_var 17) (ee_bin op_add4 o_add (ee_var 18) ee_int)) ea_nil)) rfl) (ss_one (st_if (PW.pt (tw_and (tt_cmp (op_neD hu64) o_ne (ee_var 15) (ee_var 16) (by first | exact nobehind _ (by decide) (by decide) | rfl)) (tw_and (tt_cmp (op_eqD hu64) o_eq (ee_idx hu (ee_var 19) (ea_cons (ee_var 15) ea_nil)) (ee_idx hu (ee_var 20) (ea_cons (ee_var 16) ea_nil)) (by first | exact nobehind _ (by decide) (by decide) | rfl)) (tw_and1 (tt_cmp (op_eqD hu64) o_eq (ee_idx hu (ee_var 19) (ea_cons (ee_var 16) ea_nil)) (ee_idx hu (ee_var 20) (ea_cons (ee_var 15) ea_nil)) (by first | exact nobehind _ (by decide) (by decide) | rfl)))))) (ss_one (st_append 12 isl_of (ea_cons (ee_var 18) ea_nil))) ss_nil)))) (ss_cons (st_set 21 nd (ee_lst (ea_cons (ee_fn C_crossings hr hg bn_crossings (ea_cons (ee_var 3) (ea_cons (ee_var 15) (ea_cons (ee_var 16) ea_nil)))) (ea_cons (ee_fnK [2, 1, 0] ["further", "bell", "method"] C_crossings hr hg (fun _ _ _ _ _ _ us hl => match us, hl with | [_, _, _], _ => rfl) (ek_cons (ee_var 16) (ek_cons (ee_var 15) (ek_cons (ee_var 3) ek_nil)))) (ea_cons (ee_fn C_crossings hr hg bn_crossings (ea_cons (ee_var 3) (ea_cons (ee_var 16) (ea_cons (ee_var 15) ea_nil)))) ea_nil))))) (ss_one (st_ret (ee_and (ee_cmp (op_eqD hu64) o_eq (ee_callB (cr_reprX hg hu) (opN_one o_reprX) rfl fr.repr boot_repr (ea_cons (ee_var 21) ea_nil)) (ee_callB (cr_reprX hg hu) (opN_one o_reprX) rfl fr.repr boot_repr (ea_cons (ee_bin op_mul5 o_mulT (ee_lst (ea_cons (ee_var 12) ea_nil)) ee_int) ea_nil)) (by first | exact nobehind _ (by decide) (by decide) | rfl)) (ee_one (ee_cmp (op_eqD hu64) o_eq (ee_callB (cr_reprX hg hu) (opN_one o_reprX) rfl fr.repr boot_repr (ea_cons (ee_var 3) ea_nil)) (ee_var 5) (by first | exact nobehind _ (by decide) (by decide) | rfl)))))))))))))))))))))
end
end My

set_option Elab.async false
set_option linter.all false
set_option maxRecDepth 100000
namespace My
open PySem PySem.Spec PyProof.Rows L2 Dn
/-! ## rows and changes, in plain lists -/
def doneL : Int → List Int → List Int → List Int
  | _, [], _ => []
  | _, [x], _ => [x]
  | p, x :: y :: r, c => if p ∈ c then x :: doneL (p + 1) (y :: r) c else y :: x :: doneL (p + 2) r c
theorem doneL_perm : ∀ (p : Int) (r c : List Int), (doneL p r c).Perm r
  | _, [], _ => by rw [doneL]
  | _, [x], _ => by rw [doneL]
  | p, x :: y :: r, c => by
    rw [doneL]
    split
    · exact (doneL_perm (p + 1) (y :: r) c).cons x
    · exact (((doneL_perm (p + 2) r c).cons x).cons y).trans (List.Perm.swap x y r)
theorem doneL_len (p : Int) (r c : List Int) : (doneL p r c).length = r.length := (doneL_perm p r c).length_eq
theorem doneL_twice : ∀ (p : Int) (r c : List Int), doneL p (doneL p r c) c = r
  | _, [], _ => by rw [doneL, doneL]
  | _, [x], _ => by rw [doneL, doneL]
  | p, x :: y :: r, c => by
    rw [doneL]
    split
    · rename_i h
      have ih := doneL_twice (p + 1) (y :: r) c
      have hl := doneL_len (p + 1) (y :: r) c
      cases e : doneL (p + 1) (y :: r) c with
      | nil => rw [e] at hl; cases hl
      | cons z zs => rw [e] at ih; rw [doneL, if_pos h, ih]
    · rename_i h
      rw [doneL, if_neg h, doneL_twice (p + 2) r c]
theorem doneL_map (f : Int → Int) : ∀ (p : Int) (r c : List Int), doneL p (r.map f) c = (doneL p r c).map f
  | _, [], _ => by simp [doneL]
  | _, [x], _ => by simp [doneL]
  | p, x :: y :: r, c => by
    rw [List.map_cons, List.map_cons, doneL, doneL]
    split
    · rw [List.map_cons, ← doneL_map f (p + 1) (y :: r) c]; rfl
    · rw [List.map_cons, List.map_cons, doneL_map f (p + 2) r c]
/-- a row on n bells -/
structure Row (n : Nat) (r : List Int) : Prop where
  len : r.length = n
  rng : ∀ i ∈ r, 0 ≤ i ∧ i < n
  nd : r.Nodup
theorem Row.done {n : Nat} {r : List Int} (h : Row n r) (c : List Int) : Row n (doneL 0 r c) :=
  ⟨by rw [doneL_len, h.len], fun i hi => h.rng i ((doneL_perm 0 r c).mem_iff.mp hi), (doneL_perm 0 r c).nodup_iff.mpr h.nd⟩
/-- the rows come to -/
def pathL (r : List Int) : List (List Int) → List (List Int)
  | [] => [r]
  | c :: cs => r :: pathL (doneL 0 r c) cs
def endL (r : List Int) : List (List Int) → List Int
  | [] => r
  | c :: cs => endL (doneL 0 r c) cs
theorem pathL_len : ∀ (cs : List (List Int)) (r : List Int), (pathL r cs).length = cs.length + 1
  | [], _ => rfl
  | c :: cs, r => by rw [pathL, List.length_cons, pathL_len cs, List.length_cons]
theorem pathL_rows {n : Nat} : ∀ (cs : List (List Int)) (r : List Int), Row n r → ∀ q ∈ pathL r cs, Row n q
  | [], r, h, q, hq => by rw [pathL, List.mem_singleton] at hq; rw [hq]; exact h
  | c :: cs, r, h, q, hq => by
    rw [pathL, List.mem_cons] at hq
    rcases hq with rfl | hq
    · exact h
    · exact pathL_rows cs _ (h.done c) q hq
theorem pathL_last : ∀ (cs : List (List Int)) (r : List Int), (pathL r cs).getLast? = some (endL r cs)
  | [], r => rfl
  | c :: cs, r => by
    rw [pathL, endL, List.getLast?_cons, pathL_last cs]; rfl
theorem endL_app : ∀ (cs ds : List (List Int)) (r : List Int), endL r (cs ++ ds) = endL (endL r cs) ds
  | [], _, _ => rfl
  | c :: cs, ds, r => by rw [List.cons_append, endL, endL, endL_app cs]
theorem endL_back : ∀ (cs : List (List Int)) (r : List Int), endL r (cs ++ cs.reverse) = r
  | [], _ => rfl
  | c :: cs, r => by
    rw [List.reverse_cons, ← List.append_assoc, endL_app, List.cons_append]
    show doneL 0 (endL (doneL 0 r c) (cs ++ cs.reverse)) c = r
    rw [endL_back cs]
    exact doneL_twice 0 r c
theorem pathL_at : ∀ (cs : List (List Int)) (r : List Int) (k : Nat), k ≤ cs.length → (pathL r cs)[k]? = some (endL r (cs.take k))
  | cs, r, 0, _ => by cases cs <;> rfl
  | [], r, k + 1, h => by cases h
  | c :: cs, r, k + 1, h => by
    rw [pathL, List.getElem?_cons_succ, List.take_succ_cons, endL]
    exact pathL_at cs _ k (Nat.le_of_succ_le_succ h)
theorem pathL_app : ∀ (cs ds : List (List Int)) (r : List Int), pathL r cs ++ (pathL (endL r cs) ds).drop 1 = pathL r (cs ++ ds)
  | [], [], r => rfl
  | [], d :: ds, r => rfl
  | c :: cs, ds, r => by
    rw [pathL, endL, List.cons_append, List.cons_append, pathL, pathL_app cs]
theorem Row.small {n : Nat} {r : List Int} (h : Row n r) (hn : n ≤ 8) : Small r := ⟨by rw [h.len]; exact hn, fun i hi => by have := h.rng i hi; omega⟩
/-! two changes one after the other -/
theorem row_map {n : Nat} {r : List Int} (h : Row n r) : r = ((List.range n).map (Nat.cast : Nat → Int)).map fun i => r.getD i.toNat 0 := by
  apply List.ext_getElem?
  intro i
  by_cases hi : i < n
  · have hr : i < r.length := by rw [h.len]; exact hi
    rw [List.getElem?_map, List.getElem?_map, List.getElem?_range hi, List.getElem?_eq_getElem hr]
    simp [List.getD, List.getElem?_eq_getElem hr]
  · rw [List.getElem?_eq_none (by rw [h.len]; omega), List.getElem?_eq_none (by simp; omega)]
def idL (n : Nat) : List Int := (List.range n).map (Nat.cast : Nat → Int)
def commL (n : Nat) (a b : List Int) : Bool := decide (doneL 0 (doneL 0 (idL n) a) b = doneL 0 (doneL 0 (idL n) b) a)
theorem map_inj_on {f : Int → Int} : ∀ {xs ys : List Int}, (∀ x ∈ xs, ∀ y ∈ ys, f x = f y → x = y) → xs.map f = ys.map f → xs = ys
  | [], [], _, _ => rfl
  | [], _ :: _, _, e => by cases e
  | _ :: _, [], _, e => by cases e
  | x :: xs, y :: ys, h, e => by
    rw [List.map_cons, List.map_cons, List.cons.injEq] at e
    rw [h x List.mem_cons_self y List.mem_cons_self e.1, map_inj_on (fun a ha b hb => h a (List.mem_cons_of_mem _ ha) b (List.mem_cons_of_mem _ hb)) e.2]
theorem comm_row {n : Nat} {r : List Int} (h : Row n r) (a b : List Int) : decide (doneL 0 (doneL 0 r a) b = doneL 0 (doneL 0 r b) a) = commL n a b := by
  unfold commL
  rw [decide_eq_decide]
  constructor
  · intro e
    rw [row_map h, doneL_map, doneL_map, doneL_map, doneL_map] at e
    refine map_inj_on (fun x hx y hy hxy => ?_) e
    have hx : x ∈ idL n := (((doneL_perm 0 _ b).mem_iff).trans ((doneL_perm 0 _ a).mem_iff)).mp hx
    have hy : y ∈ idL n := (((doneL_perm 0 _ a).mem_iff).trans ((doneL_perm 0 _ b).mem_iff)).mp hy
    unfold idL at hx hy
    obtain ⟨i, hi, rfl⟩ := List.mem_map.mp hx
    obtain ⟨j, hj, rfl⟩ := List.mem_map.mp hy
    have hi := List.mem_range.mp hi
    have hj := List.mem_range.mp hj
    have hi' : i < r.length := by rw [h.len]; exact hi
    have hj' : j < r.length := by rw [h.len]; exact hj
    simp only [Int.toNat_natCast, List.getD, List.getElem?_eq_getElem hi', List.getElem?_eq_getElem hj', Option.getD_some] at hxy
    rw [(List.getElem_inj h.nd).mp hxy]
  · intro e
    rw [row_map h, doneL_map, doneL_map, doneL_map, doneL_map]
    exact congrArg _ e
end My

set_option Elab.async false
set_option linter.all false
set_option maxRecDepth 100000
set_option maxHeartbeats 600000
namespace My
open PySem PySem.Spec PyProof.Rows L2 Dn
/-! ## k11: what holds of each number of bells -/
def chsN (n : Nat) : List (List Int) := match f__law_changes [.int n] with
  | .ret (.lst _ xs) => (tisOf xs).getD []
  | _ => []
def rowB (n : Nat) (r : List Int) : Bool := decide (r.length = n) && r.all (fun i => decide (0 ≤ i) && decide (i < n)) && decide r.Nodup
theorem rowB_ok {n : Nat} {r : List Int} (h : rowB n r = true) : Row n r := by
  unfold rowB at h
  rw [Bool.and_eq_true, Bool.and_eq_true, decide_eq_true_eq, decide_eq_true_eq, List.all_eq_true] at h
  exact ⟨h.1.1, fun i hi => by have := h.1.2 i hi; rw [Bool.and_eq_true, decide_eq_true_eq, decide_eq_true_eq] at this; exact this, h.2⟩
def smallB (r : List Int) : Bool := decide (r.length ≤ 8) && r.all (fun i => decide (0 ≤ i) && decide (i < 1000))
theorem smallB_ok {r : List Int} (h : smallB r = true) : Small r := by
  unfold smallB at h
  rw [Bool.and_eq_true, decide_eq_true_eq, List.all_eq_true] at h
  exact ⟨h.1, fun i hi => by have := h.2 i hi; rw [Bool.and_eq_true, decide_eq_true_eq, decide_eq_true_eq] at this; exact this⟩
structure BF (n : Nat) : Prop where
  lo : 3 ≤ n
  hi : n ≤ 6
  isb : f_is_bells [.int n] = .ret (.bl true)
  idr : tupRg1 (.int n) = .ret (tiD (idL n))
  idrow : Row n (idL n)
  chs : f__law_changes [.int n] = .ret (rowD .own (chsN n))
  isch : ∀ c ∈ chsN n, f_is_change_of [.int n, tiD c] = .ret (.bl true)
  done : ∀ c ∈ chsN n, ∀ r : List Int, r.length = n → f__law_changed [tiD r, tiD c] = .ret (tiD (doneL 0 r c))
  crow : ∀ c ∈ chsN n, f_change_row [.int n, tiD c] = .ret (tiD (doneL 0 (idL n) c))
  pos : 0 < (chsN n).length
  few : (chsN n).length < 1000
  nd : (chsN n).Nodup
  sm : ∀ c ∈ chsN n, Small c
theorem map_mem {α β : Type} {f g : α → β} {l : List α} (e : l.map f = l.map g) : ∀ x ∈ l, f x = g x := List.map_inj_left.mp e
theorem len3 {P : List Int → Prop} (h : ∀ a b c, P [a, b, c]) : ∀ r : List Int, r.length = 3 → P r
  | [a, b, c], _ => h a b c
theorem len4 {P : List Int → Prop} (h : ∀ a b c d, P [a, b, c, d]) : ∀ r : List Int, r.length = 4 → P r
  | [a, b, c, d], _ => h a b c d
theorem len5 {P : List Int → Prop} (h : ∀ a b c d e, P [a, b, c, d, e]) : ∀ r : List Int, r.length = 5 → P r
  | [a, b, c, d, e], _ => h a b c d e
theorem len6 {P : List Int → Prop} (h : ∀ a b c d e f, P [a, b, c, d, e, f]) : ∀ r : List Int, r.length = 6 → P r
  | [a, b, c, d, e, f], _ => h a b c d e f
theorem isch_of {n : Nat} (h : (chsN n).map (fun c => f_is_change_of [.int n, tiD c]) = (chsN n).map fun _ => T.ret (D.bl true)) : ∀ c ∈ chsN n, f_is_change_of [.int n, tiD c] = .ret (.bl true) := map_mem h
theorem crow_of {n : Nat} (h : (chsN n).map (fun c => f_change_row [.int n, tiD c]) = (chsN n).map fun c => T.ret (tiD (doneL 0 (idL n) c))) : ∀ c ∈ chsN n, f_change_row [.int n, tiD c] = .ret (tiD (doneL 0 (idL n) c)) := map_mem h
theorem dn3 (a b c : Int) : (chsN 3).map (fun ch => f__law_changed [tiD [a, b, c], tiD ch]) = (chsN 3).map fun ch => .ret (tiD (doneL 0 [a, b, c] ch)) := by kernel_rfl
theorem dn4 (a b c d : Int) : (chsN 4).map (fun ch => f__law_changed [tiD [a, b, c, d], tiD ch]) = (chsN 4).map fun ch => .ret (tiD (doneL 0 [a, b, c, d] ch)) := by kernel_rfl
theorem dn5 (a b c d e : Int) : (chsN 5).map (fun ch => f__law_changed [tiD [a, b, c, d, e], tiD ch]) = (chsN 5).map fun ch => .ret (tiD (doneL 0 [a, b, c, d, e] ch)) := by kernel_rfl
theorem dn6 (a b c d e f : Int) : (chsN 6).map (fun ch => f__law_changed [tiD [a, b, c, d, e, f], tiD ch]) = (chsN 6).map fun ch => .ret (tiD (doneL 0 [a, b, c, d, e, f] ch)) := by kernel_rfl
theorem bf3 : BF 3 := ⟨by decide, by decide, by kernel_rfl, by kernel_rfl, rowB_ok (by kernel_rfl), by kernel_rfl,
  isch_of (by kernel_rfl), fun c hc => len3 (P := fun r => f__law_changed [tiD r, tiD c] = _) fun x y z => map_mem (dn3 x y z) c hc, crow_of (by kernel_rfl), of_decide_eq_true (by kernel_rfl), of_decide_eq_true (by kernel_rfl), of_decide_eq_true (by kernel_rfl), fun r hr => smallB_ok (List.all_eq_true.mp (show (chsN 3).all smallB = true by kernel_rfl) r hr)⟩
theorem bf4 : BF 4 := ⟨by decide, by decide, by kernel_rfl, by kernel_rfl, rowB_ok (by kernel_rfl), by kernel_rfl,
  isch_of (by kernel_rfl), fun c hc => len4 (P := fun r => f__law_changed [tiD r, tiD c] = _) fun x y z u => map_mem (dn4 x y z u) c hc, crow_of (by kernel_rfl), of_decide_eq_true (by kernel_rfl), of_decide_eq_true (by kernel_rfl), of_decide_eq_true (by kernel_rfl), fun r hr => smallB_ok (List.all_eq_true.mp (show (chsN 4).all smallB = true by kernel_rfl) r hr)⟩
theorem bf5 : BF 5 := ⟨by decide, by decide, by kernel_rfl, by kernel_rfl, rowB_ok (by kernel_rfl), by kernel_rfl,
  isch_of (by kernel_rfl), fun c hc => len5 (P := fun r => f__law_changed [tiD r, tiD c] = _) fun x y z u v => map_mem (dn5 x y z u v) c hc, crow_of (by kernel_rfl), of_decide_eq_true (by kernel_rfl), of_decide_eq_true (by kernel_rfl), of_decide_eq_true (by kernel_rfl), fun r hr => smallB_ok (List.all_eq_true.mp (show (chsN 5).all smallB = true by kernel_rfl) r hr)⟩
theorem bf6 : BF 6 := ⟨by decide, by decide, by kernel_rfl, by kernel_rfl, rowB_ok (by kernel_rfl), by kernel_rfl,
  isch_of (by kernel_rfl), fun c hc => len6 (P := fun r => f__law_changed [tiD r, tiD c] = _) fun x y z u v w => map_mem (dn6 x y z u v w) c hc, crow_of (by kernel_rfl), of_decide_eq_true (by kernel_rfl), of_decide_eq_true (by kernel_rfl), of_decide_eq_true (by kernel_rfl), fun r hr => smallB_ok (List.all_eq_true.mp (show (chsN 6).all smallB = true by kernel_rfl) r hr)⟩
theorem bfs : ∀ i : Int, 0 ≤ i → i < 4 → ∃ n : Nat, 3 + i = n ∧ BF n := by
  intro i h0 h1
  have : i = 0 ∨ i = 1 ∨ i = 2 ∨ i = 3 := by omega
  rcases this with rfl | rfl | rfl | rfl
  · exact ⟨3, rfl, bf3⟩
  · exact ⟨4, rfl, bf4⟩
  · exact ⟨5, rfl, bf5⟩
  · exact ⟨6, rfl, bf6⟩
end My

set_option Elab.async false
set_option linter.all false
set_option maxRecDepth 100000
set_option maxHeartbeats 600000
namespace My
open PySem PySem.Spec PyProof.Rows L2 Dn
theorem sc_int (i : Int) : clean (.int i) = true := by rw [clean]
theorem sc_bl (i : Bool) : clean (.bl i) = true := by rw [clean]
theorem neg_int {i : Int} : D.neg (.int i) = .ret (.int (-i)) := rfl
theorem ixXTs {rs : List (List Int)} {k : Nat} {r : List Int} (h : rs[k]? = some r) : D.ix (tsD rs) (.int (k : Int)) = .ret (tiD r) := ixTs h
theorem ixXT {r : List Int} {k : Nat} {x : Int} (h : r[k]? = some x) : D.ix (tiD r) (.int (k : Int)) = .ret (.int x) := ix_ti h
theorem ixXR {f : Fl} {rs : List (List Int)} {k : Nat} {r : List Int} (h : rs[k]? = some r) : D.ix (rowD f rs) (.int (k : Int)) = .ret (tiD r) := ixR h
theorem ixXR_last {f : Fl} {rs : List (List Int)} {r : List Int} (h : rs.getLast? = some r) : D.ix (rowD f rs) (.int (-1)) = .ret (tiD r) := ixR_last h
/-! plain -/
def comp (r s : List Int) : List Int := s.map fun i => r.getD i.toNat 0
theorem comp_done (r s c : List Int) (p : Int) : comp r (doneL p s c) = doneL p (comp r s) c := (doneL_map _ p s c).symm
theorem comp_id {n : Nat} {r : List Int} (h : Row n r) : comp r (idL n) = r := (row_map h).symm
theorem comp_path (r : List Int) : ∀ (cs : List (List Int)) (s : List Int), (pathL s cs).map (comp r) = pathL (comp r s) cs
  | [], s => rfl
  | c :: cs, s => by rw [pathL, List.map_cons, comp_path r cs, comp_done, pathL]
theorem comp_end (r : List Int) : ∀ (cs : List (List Int)) (s : List Int), comp r (endL s cs) = endL (comp r s) cs
  | [], s => rfl
  | c :: cs, s => by rw [endL, comp_end r cs, comp_done, endL]
theorem Row.endL {n : Nat} : ∀ {cs : List (List Int)} {r : List Int}, Row n r → Row n (endL r cs)
  | [], _, h => h
  | c :: cs, _, h => Row.endL (cs := cs) (h.done c)
/-! the program's words -/
theorem toTup_g (s : List Int) (f : Int → Int) : D.toTup (.lst .own (s.map fun i => D.int (f i))) = .ret (tiD (s.map f)) := by
  have := toTup_ti (r := s.map f)
  rw [List.map_map] at this
  exact this
theorem times_ok {r s : List Int} (h : ∀ i ∈ s, 0 ≤ i ∧ i < r.length) (hl : s.length ≤ 1000000) : f_times [tiD r, tiD s] = .ret (tiD (comp r s)) := by
  refine runF_rt (retS_eq (callN_eq (argsN_eq (compI (fun i => .int (r.getD i.toNat 0)) (src_ti (var_ti rfl)) hl fun i hi => ⟨?_, rfl⟩) rfl) (one_eq (toTup_g _ _))) (clean_ti _))
  obtain ⟨k, rfl⟩ := Int.eq_ofNat_of_zero_le (h i hi).1
  have hk := (h _ hi).2
  have hk2 : k < r.length := by omega
  refine bin2_eq (var_ti (r := r) rfl) (var_int (n := (k : Int)) rfl) (ix_ti ?_)
  rw [List.getElem?_eq_getElem hk2, List.getD_eq_getElem?_getD, Int.toNat_natCast, List.getElem?_eq_getElem hk2]; rfl
section
variable {n : Nat} {cs ks : List (List Int)} {r s c : List Int}
theorem times_row (h : Row n r) (g : Row n s) (hn : n ≤ 6) : f_times [tiD r, tiD s] = .ret (tiD (comp r s)) := times_ok (fun i hi => by rw [h.len]; exact g.rng i hi) (by rw [g.len]; omega)
theorem times_crow (B : BF n) (h : Row n r) : f_times [tiD r, tiD (doneL 0 (idL n) c)] = .ret (tiD (doneL 0 r c)) := by
  rw [times_row h (B.idrow.done c) B.hi, comp_done, comp_id h]
theorem is_int (i : Int) : f_is_integer [.int i] = .ret (.bl true) := runF_rt (retS_eq (d := .bl true) rfl (sc_bl _))
theorem le_t {a b : Int} (h : a ≤ b) : D.le (.int a) (.int b) = .ret (.bl true) := by show T.ret (D.bl (decide (a ≤ b))) = _; rw [decide_eq_true h]
theorem chain_t {a b c : Dn.Env → T D} {env : Dn.Env} {x y z : Int} (ha : a env = .ret (.int x)) (hb : b env = .ret (.int y)) (hc : c env = .ret (.int z)) (h1 : x ≤ y) (h2 : y ≤ z) : chainE D.le D.le a b c env = .ret (.bl true) :=
  T.bind_eq ha (T.bind_eq hb (T.bind_eq (le_t h1) (T.bind_eq hc (le_t h2))))
theorem within (i a b : Int) (h : a ≤ i ∧ i ≤ b) : f_is_within [.int i, .int a, .int b] = .ret (.bl true) :=
  runF_rt (retS_eq (andE_t (callN_eq (argsN_eq rfl rfl) (cF (is_int i) rfl)) (chain_t (x := a) (y := i) (z := b) rfl rfl rfl h.1 h.2)) (sc_bl _))
theorem lenSetA_ti {ns : List Int} (h : ns.Nodup) (hl : ns.length ≤ 4000) : D.lenSetA (tiD ns) = .ret (.int ns.length) := by
  show cntA (ns.map D.int) = _
  unfold cntA
  rw [Dn.ints_of]
  show (if ns.length ≤ 4000 then T.ret (D.int (ddI ns).length) else .fail) = _
  rw [if_pos hl, ddI_id h]
theorem is_row (B : BF n) (h : Row n r) : f_is_row_of [.int n, tiD r] = .ret (.bl true) := by
  have := B.lo
  have := B.hi
  have hl := h.len
  refine runF_rt (seqS_nx (if_f (or_f (not_t (te (un1_eq (var_ti rfl) rfl))) (or_f (te (bin2_eq (callN_eq (argsN_eq (var_ti rfl) rfl) (one_eq len_ti)) (var_int rfl) ?_)) (not_t (te (callN_eq (argsN_eq (compE_eq (ds := r.map D.int) (fun _ => .bl true) (src_ti (var_ti rfl)) (by rw [List.length_map]; omega) ?_) rfl) (one_eq (all_true _))))))) skip_eq) (retS_eq (bin2_eq (un1_eq (var_ti rfl) (lenSetA_ti h.nd (by omega))) (var_int rfl) ?_) (sc_bl _)))
  · exact (Dn.ne_int _ _).trans (by rw [hl, beq_self_eq_true]; rfl)
  · intro d hd
    obtain ⟨i, hi, rfl⟩ := List.mem_map.mp hd
    have := h.rng i hi
    exact ⟨T.bind_eq rfl (callN_eq (argsN_eq (var_int rfl) (argsN_eq con_eq (argsN_eq (bin2_eq (var_int rfl) con_eq rfl) rfl))) (cF (within i 0 (n - 1) (by omega)) rfl)), rfl⟩
  · exact (Dn.eq_int _ _).trans (by rw [hl, beq_self_eq_true])
theorem want_row (B : BF n) (h : Row n r) : f_want_row [.int n, tiD r] = .ret .non := by
  have f1 := is_row B h
  refine runF_nx (if_f (not_t (te (callN_eq (argsN_eq (var_int rfl) (argsN_eq (var_ti rfl) rfl)) (cF f1 rfl)))) rfl)
end
end My

set_option Elab.async false
set_option linter.all false
set_option maxRecDepth 100000
set_option maxHeartbeats 600000
namespace My
open PySem PySem.Spec PyProof.Rows L2 Dn
/-! a method -/
def methD (n : Nat) (cs ks : List (List Int)) : D := .tup [.str "method", .int n, tsD cs, tsD ks]
theorem var_M {env : Dn.Env} {i n : Nat} {cs ks : List (List Int)} (e : env[i]? = some (some (methD n cs ks))) : var i env = .ret (methD n cs ks) := by unfold var; rw [e]; rfl
theorem mix0 {n : Nat} {cs ks : List (List Int)} : D.ix (methD n cs ks) (.int 0) = .ret (.str "method") := rfl
theorem mix1 {n : Nat} {cs ks : List (List Int)} : D.ix (methD n cs ks) (.int 1) = .ret (.int n) := rfl
theorem mix2 {n : Nat} {cs ks : List (List Int)} : D.ix (methD n cs ks) (.int 2) = .ret (tsD cs) := rfl
theorem mix3 {n : Nat} {cs ks : List (List Int)} : D.ix (methD n cs ks) (.int 3) = .ret (tsD ks) := rfl
theorem sIx_neg (n d k : Nat) (h : k + 1 ≤ n) : HT.sIx n d (some (-((k : Int) + 1))) = n - (k + 1) := by
  have hk : -((k : Int) + 1) < 0 := by omega
  simp [HT.sIx, hk]
  omega
theorem sIx_none (n d : Nat) : HT.sIx n d none = d := rfl
theorem cutTs_init {cs : List (List Int)} (h : cs ≠ []) : D.cut (tsD cs) none (some (-1)) = .ret (tsD cs.dropLast) := by
  have hl : 1 ≤ cs.length := by cases cs; exact absurd rfl h; simp
  show T.ret (D.tup (cutL (cs.map tiD) none (some (-1)))) = _
  have e : cutL (cs.map tiD) none (some (-1)) = cs.dropLast.map tiD := by
    unfold cutL
    rw [sIx_none, show (some (-1 : Int)) = some (-(((0 : Nat) : Int) + 1)) from rfl, sIx_neg _ _ 0 (by rw [List.length_map]; omega), List.drop_zero, List.length_map, List.dropLast_eq_take, List.map_take]
    rfl
  rw [e]; rfl
theorem cutTs_last {cs : List (List Int)} {c : List Int} (h : cs.getLast? = some c) : D.cut (tsD cs) (some (-1)) none = .ret (tsD [c]) := by
  have hx : cs ≠ [] := by intro e; rw [e] at h; cases h
  have hl : 1 ≤ cs.length := by cases cs; exact absurd rfl hx; simp
  show T.ret (D.tup (cutL (cs.map tiD) (some (-1)) none)) = _
  have e : cutL (cs.map tiD) (some (-1)) none = [c].map tiD := by
    unfold cutL
    rw [sIx_none, show (some (-1 : Int)) = some (-(((0 : Nat) : Int) + 1)) from rfl, sIx_neg _ _ 0 (by rw [List.length_map]; omega), ← List.map_drop, List.length_map]
    have e2 : cs.drop (cs.length - (0 + 1)) = [c] := by
      rw [List.getLast?_eq_getElem?] at h
      obtain ⟨h1, h2⟩ := List.getElem?_eq_some_iff.mp h
      rw [Nat.zero_add, List.drop_eq_getElem_cons h1, h2, List.drop_of_length_le (by omega)]
    rw [e2, List.take_of_length_le (by simp; omega)]
  rw [e]; rfl
theorem add_ts (cs ds : List (List Int)) (h : cs.length + ds.length ≤ 1000000) : D.add (tsD cs) (tsD ds) = .ret (tsD (cs ++ ds)) := by
  show (if _ then _ else _) = _
  rw [if_pos (by rw [List.length_map, List.length_map]; exact h), ← List.map_append]; rfl
theorem dl_mem {α : Type} {xs : List α} {x : α} (h : x ∈ xs.dropLast) : x ∈ xs := List.dropLast_subset xs h
theorem app_eq {i : Nat} {e : Dn.Env → T D} {env : Dn.Env} {xs : List D} {d : D} (h : env[i]? = some (some (.lst .own xs))) (he : e env = .ret d) (c : topBor d = false) (hl : xs.length ≤ 1000000) : appendS i e env = .ret (.nx (env.set i (some (.lst .own (xs ++ [d]))))) := by
  have ho : ownAt env i = some xs := by unfold ownAt; rw [h]
  unfold appendS
  rw [ho]
  exact T.bind_eq rfl (T.bind_eq he (if_pos ⟨c, hl⟩))
theorem cut_eq {e : Dn.Env → T D} {lo hi : Dn.Env → T (Option Int)} {env : Dn.Env} {d : D} {l u : Option Int} {t : T D} (h : e env = .ret d) (hl : lo env = .ret l) (hh : hi env = .ret u) (ht : D.cut d l u = t) : cutE e lo hi env = t := T.bind_eq h (T.bind_eq hl (T.bind_eq hh ht))
theorem part_eq {e : Dn.Env → T D} {env : Dn.Env} {i : Int} (h : e env = .ret (.int i)) : partE e env = .ret (some i) := T.bind_eq h rfl
theorem noP_eq {env : Dn.Env} : noP env = .ret none := rfl
section
variable {n : Nat} {cs ks : List (List Int)} {r s c : List Int}
theorem lead_loop (B : BF n) : ∀ (ds : List (List Int)) (r : List Int) (ps : List (List Int)) (x : Option D), (∀ c ∈ ds, c ∈ chsN n) → Row n r → ps.length + ds.length ≤ 100000 →
    ∃ x', loopS (tgN 2) (appendS 1 (callN (callF 2 f_times) (argsN (bin2 D.ix (var 1) (un1 D.neg (con (.int 1)))) (argsN (callN (callF 2 f_change_row) (argsN (bin2 D.ix (var 0) (con (.int 1))) (argsN (var 2) args0))) args0)))) (ds.map tiD) [some (methD n cs ks), some (rowD .own (ps ++ [r])), x] = .ret (.nx [some (methD n cs ks), some (rowD .own (ps ++ pathL r ds)), x'])
  | [], r, ps, x, _, _, _ => ⟨x, rfl⟩
  | c :: ds, r, ps, x, hc, h, hl => by
    obtain ⟨x', e⟩ := lead_loop B ds (doneL 0 r c) (ps ++ [r]) (some (tiD c)) (fun d hd => hc d (List.mem_cons_of_mem _ hd)) (h.done c) (by simp only [List.length_append, List.length_cons, List.length_nil] at hl ⊢; omega)
    refine ⟨x', ?_⟩
    rw [show ps ++ [r] ++ pathL (doneL 0 r c) ds = ps ++ pathL r (c :: ds) by rw [List.append_assoc]; rfl] at e
    rw [List.map_cons]
    refine T.bind_eq (a := [some (methD n cs ks), some (rowD .own (ps ++ [r])), some (tiD c)]) rfl (T.bind_eq (a := Out.nx [some (methD n cs ks), some (rowD .own ((ps ++ [r]) ++ [doneL 0 r c])), some (tiD c)]) ?_ e)
    have f1 := B.crow c (hc c List.mem_cons_self)
    have f2 := times_crow B h (c := c)
    have f3 : D.ix (rowD .bor (ps ++ [r])) (.int (-1)) = .ret (tiD r) := ixR_last (by simp)
    refine (app_eq (d := tiD (doneL 0 r c)) (xs := (ps ++ [r]).map tiD) rfl ?_ rfl (by simp only [List.length_map, List.length_append, List.length_cons, List.length_nil] at hl ⊢; omega)).trans ?_
    · refine callN_eq (argsN_eq (x := tiD r) ?_ (argsN_eq (x := tiD (doneL 0 (idL n) c)) ?_ args0_eq)) (cF f2 rfl)
      · repeat' (first | with_reducible assumption | with_reducible exact con_eq | with_reducible exact args0_eq | with_reducible exact skip_eq | with_reducible exact toTup_ti | with_reducible exact toTup_row | with_reducible exact len_ti | with_reducible exact len_ts | with_reducible exact len_row | with_reducible exact neg_int | ((with_reducible apply var_ti); rfl) | ((with_reducible apply var_int); rfl) | ((with_reducible apply var_own); rfl) | ((with_reducible apply var_frz); rfl) | ((with_reducible apply var_arg); rfl) | ((with_reducible apply var_str); rfl) | ((with_reducible apply var_pot); rfl) | ((with_reducible apply var_bl); rfl) | with_reducible apply argsN_eq | with_reducible apply callN_eq | with_reducible apply one_eq | with_reducible apply two_eq | with_reducible apply cF | with_reducible apply bin2_eq | with_reducible apply un1_eq | with_reducible apply te | with_reducible apply not_t | with_reducible apply or_f | with_reducible apply if_f | with_reducible apply seqS_nx | with_reducible apply dropS_eq | with_reducible apply setS_eq | with_reducible apply retS_eq | exact (rfl : (_ : Nat) = _) | with_reducible rfl)
      · repeat' (first | with_reducible assumption | with_reducible exact mix1 | with_reducible exact (var_M rfl) | with_reducible exact con_eq | with_reducible exact args0_eq | with_reducible exact skip_eq | with_reducible exact toTup_ti | with_reducible exact toTup_row | with_reducible exact len_ti | with_reducible exact len_ts | with_reducible exact len_row | with_reducible exact neg_int | ((with_reducible apply var_ti); rfl) | ((with_reducible apply var_int); rfl) | ((with_reducible apply var_own); rfl) | ((with_reducible apply var_frz); rfl) | ((with_reducible apply var_arg); rfl) | ((with_reducible apply var_str); rfl) | ((with_reducible apply var_pot); rfl) | ((with_reducible apply var_bl); rfl) | with_reducible apply argsN_eq | with_reducible apply callN_eq | with_reducible apply one_eq | with_reducible apply two_eq | with_reducible apply cF | with_reducible apply bin2_eq | with_reducible apply un1_eq | with_reducible apply te | with_reducible apply not_t | with_reducible apply or_f | with_reducible apply if_f | with_reducible apply seqS_nx | with_reducible apply dropS_eq | with_reducible apply setS_eq | with_reducible apply retS_eq | exact (rfl : (_ : Nat) = _) | with_reducible rfl)
    · unfold rowD
      rw [List.map_append (l₂ := [doneL 0 r c])]
      rfl
theorem lead_of (B : BF n) (hc : ∀ c ∈ cs, c ∈ chsN n) (hl : cs.length ≤ 90000) (hx : cs ≠ []) : f_lead_of [methD n cs ks] = .ret (rowD .own (pathL (idL n) cs.dropLast)) := by
  obtain ⟨x', e⟩ := lead_loop B (cs := cs) (ks := ks) cs.dropLast (idL n) [] none (fun c h => hc c (dl_mem h)) B.idrow (by simp; omega)
  have f1 : f_rounds_of [.int n] = .ret (tiD (idL n)) := runF_rt (retS_eq (un1_eq (var_int rfl) B.idr) (clean_ti _))
  refine runF_rt (seqS_nx (setS_eq (d := rowD .own [idL n]) ?_ rfl) (seqS_nx (e := [some (methD n cs ks), some (rowD .own (pathL (idL n) cs.dropLast)), x']) (T.bind_eq (a := cs.dropLast.map tiD) ?_ e) ?_))
  · refine callN_eq (argsN_eq (x := tiD (idL n)) ?_ args0_eq) rfl
    refine callN_eq (argsN_eq (x := .int n) ?_ args0_eq) (cF f1 rfl)
    repeat' (first | with_reducible assumption | with_reducible exact mix1 | with_reducible exact (var_M rfl) | with_reducible exact con_eq | with_reducible exact args0_eq | with_reducible exact skip_eq | with_reducible exact toTup_ti | with_reducible exact toTup_row | with_reducible exact len_ti | with_reducible exact len_ts | with_reducible exact len_row | with_reducible exact neg_int | ((with_reducible apply var_ti); rfl) | ((with_reducible apply var_int); rfl) | ((with_reducible apply var_own); rfl) | ((with_reducible apply var_frz); rfl) | ((with_reducible apply var_arg); rfl) | ((with_reducible apply var_str); rfl) | ((with_reducible apply var_pot); rfl) | ((with_reducible apply var_bl); rfl) | with_reducible apply argsN_eq | with_reducible apply callN_eq | with_reducible apply one_eq | with_reducible apply two_eq | with_reducible apply cF | with_reducible apply bin2_eq | with_reducible apply un1_eq | with_reducible apply te | with_reducible apply not_t | with_reducible apply or_f | with_reducible apply if_f | with_reducible apply seqS_nx | with_reducible apply dropS_eq | with_reducible apply setS_eq | with_reducible apply retS_eq | exact (rfl : (_ : Nat) = _) | with_reducible rfl)
  · refine src_ts (cut_eq (d := tsD cs) ?_ noP_eq (part_eq (i := -1) rfl) (cutTs_init hx))
    exact bin2_eq (var_M rfl) con_eq mix2
  · exact (retV_some rfl).trans (if_pos (clean_rowD rfl _))
theorem turns_of (B : BF n) (hc : ∀ c ∈ cs, c ∈ chsN n) (hk : ∀ c ∈ ks, c ∈ chsN n) (hl : cs.length ≤ 90000) (hl2 : ks.length ≤ 90000) {l : List Int} (hx : cs.getLast? = some l) :
    f_turns_of [methD n cs ks] = .ret (tsD ((l :: ks).map fun c => doneL 0 (endL (idL n) cs.dropLast) c)) := by
  have hx0 : cs ≠ [] := by intro e; rw [e] at hx; cases hx
  have f1 := lead_of B hc hl hx0 (ks := ks)
  have f2 : D.ix (rowD .own (pathL (idL n) cs.dropLast)) (.int (-1)) = .ret (tiD (endL (idL n) cs.dropLast)) := ixR_last (pathL_last _ _)
  have hr : Row n (endL (idL n) cs.dropLast) := B.idrow.endL
  have f3 := cutTs_last hx
  have f4 : D.add (tsD [l]) (tsD ks) = .ret (tsD (l :: ks)) := add_ts [l] ks (by simp; omega)
  have hk2 : ∀ c ∈ l :: ks, c ∈ chsN n := fun c h => (List.mem_cons.mp h).elim (fun e => by rw [e]; exact hc l (List.mem_of_getLast? hx)) (hk c)
  refine runF_rt (seqS_nx (setS_eq (d := tiD (endL (idL n) cs.dropLast)) ?_ rfl) (retS_eq (d := tsD ((l :: ks).map fun c => doneL 0 (endL (idL n) cs.dropLast) c)) ?_ ?_))
  · repeat' (first | with_reducible assumption | with_reducible exact (var_M rfl) | with_reducible exact con_eq | with_reducible exact args0_eq | with_reducible exact skip_eq | with_reducible exact toTup_ti | with_reducible exact toTup_row | with_reducible exact len_ti | with_reducible exact len_ts | with_reducible exact len_row | with_reducible exact neg_int | ((with_reducible apply var_ti); rfl) | ((with_reducible apply var_int); rfl) | ((with_reducible apply var_own); rfl) | ((with_reducible apply var_frz); rfl) | ((with_reducible apply var_arg); rfl) | ((with_reducible apply var_str); rfl) | ((with_reducible apply var_pot); rfl) | ((with_reducible apply var_bl); rfl) | with_reducible apply argsN_eq | with_reducible apply callN_eq | with_reducible apply one_eq | with_reducible apply two_eq | with_reducible apply cF | with_reducible apply bin2_eq | with_reducible apply un1_eq | with_reducible apply te | with_reducible apply not_t | with_reducible apply or_f | with_reducible apply if_f | with_reducible apply seqS_nx | with_reducible apply dropS_eq | with_reducible apply setS_eq | with_reducible apply retS_eq | exact (rfl : (_ : Nat) = _) | with_reducible rfl)
  · refine callN_eq (argsN_eq (compR (fun c => doneL 0 (endL (idL n) cs.dropLast) c) (src_ts (rs := l :: ks) ?_) (by simp; omega) ?_) args0_eq) (one_eq toTup_row)
    · refine bin2_eq (cut_eq (d := tsD cs) ?_ (part_eq (i := -1) rfl) noP_eq f3) ?_ f4
      · exact bin2_eq (var_M rfl) con_eq mix2
      · exact bin2_eq (var_M rfl) con_eq mix3
    · intro c hcc
      have g1 := B.crow c (hk2 c hcc)
      have g2 := times_crow B hr (c := c)
      refine callN_eq (argsN_eq (var_ti rfl) (argsN_eq (callN_eq (argsN_eq (bin2_eq (var_M (n := n) (cs := cs) (ks := ks) rfl) con_eq mix1) (argsN_eq (var_ti (r := c) rfl) args0_eq)) (cF g1 rfl)) args0_eq)) (cF g2 rfl)
  · unfold tsD; rw [clean_tup]; exact clean_tis _
end
end My

set_option Elab.async false
set_option linter.all false
set_option maxRecDepth 100000
set_option maxHeartbeats 600000
namespace My
open PySem PySem.Spec PyProof.Rows L2 Dn
structure MethW (n : Nat) (cs ks : List (List Int)) (l : List Int) : Prop where
  few : cs.length ≤ 40
  few2 : ks.length ≤ 3
  last : cs.getLast? = some l
  nd : (ks ++ [l]).Nodup
  cs : ∀ c ∈ cs, c ∈ chsN n
  ks : ∀ c ∈ ks, c ∈ chsN n
theorem ddL_id {α : Type} [DecidableEq α] : ∀ {ns : List α}, ns.Nodup → ddL ns = ns
  | [], _ => rfl
  | x :: xs, h => by
    rw [List.nodup_cons] at h
    unfold ddL
    rw [if_neg h.1, ddL_id h.2]
theorem tis_of : ∀ rs : List (List Int), tisOf (rs.map tiD) = some rs
  | [] => rfl
  | r :: rs => by
    have h1 : intsOf (r.map D.int) = some r := Dn.ints_of r
    rw [List.map_cons]
    show (intsOf (r.map D.int)).bind (fun ns => (tisOf (rs.map tiD)).map (ns :: ·)) = _
    rw [h1, tis_of rs]; rfl
theorem lenSetA_ts {rs : List (List Int)} (h : rs.Nodup) (hl : rs.length < 64) (hx : rs ≠ []) : D.lenSetA (tsD rs) = .ret (.int rs.length) := by
  cases rs with
  | nil => exact absurd rfl hx
  | cons r rs =>
    show cntA (tiD r :: rs.map tiD) = _
    have e : intsOf (tiD r :: rs.map tiD) = none := rfl
    unfold cntA
    rw [e]
    show (T.ofO (tisOf ((r :: rs).map tiD))).bind _ = _
    rw [tis_of]
    show (if (r :: rs).length < 64 then T.ret (D.int (ddL (r :: rs)).length) else .fail) = _
    rw [if_pos hl, ddL_id h]
theorem ne_strs {x : Str} (h : PyData.strOk x = true) : D.ne (.str x) (.str x) = .ret (.bl false) := by rw [ne_str h h, beq_self_eq_true]; rfl
section
variable {n : Nat} {cs ks : List (List Int)} {r s c l : List Int}
theorem is_tuple4 {a b c d : D} : f_is_tuple [.tup [a, b, c, d], .int 4] = .ret (.bl true) := runF_rt (retS_eq (d := .bl true) (andE_t rfl (bin2_eq (x := .int 4) (y := .int 4) rfl rfl ((Dn.eq_int 4 4).trans rfl))) (sc_bl _))
theorem is_meth (B : BF n) (m : MethW n cs ks l) : f_is_method_any [methD n cs ks] = .ret (.bl true) := by
  have hx : cs ≠ [] := by intro e; have := m.last; rw [e] at this; cases this
  have h1 : 1 ≤ cs.length := by cases cs; exact absurd rfl hx; simp
  have h2 := m.few
  have h3 := m.few2
  have f1 : f_is_tuple [methD n cs ks, .int 4] = .ret (.bl true) := is_tuple4
  have f2 := B.isb
  have f3 : D.ne (.str "method") (.str "method") = .ret (.bl false) := ne_strs (by decide +kernel)
  refine runF_rt (seqS_nx (if_f (or_f (not_t (te (callN_eq (argsN_eq (var_M rfl) (argsN_eq con_eq args0_eq)) (cF f1 rfl)))) (or_f (not_t (te (un1_eq (bin2_eq (var_M rfl) con_eq mix0) rfl))) (or_f (te (bin2_eq (bin2_eq (var_M rfl) con_eq mix0) con_eq f3)) (not_t (te (callN_eq (argsN_eq (bin2_eq (var_M rfl) con_eq mix1) args0_eq) (cF f2 rfl))))))) skip_eq) ?_)
  refine seqS_nx (e := [some (methD n cs ks), some (.str "method"), some (.int n), some (tsD cs), some (tsD ks), none]) (asg_eq (xs := [.str "method", .int n, tsD cs, tsD ks]) rfl rfl) ?_
  refine seqS_nx (if_f (or_f (not_t (te (un1_eq (var_tup (xs := cs.map tiD) rfl) rfl))) (not_t (te (chain_t (x := 1) (y := cs.length) (z := 40) con_eq (callN_eq (argsN_eq (var_tup (xs := cs.map tiD) rfl) args0_eq) (one_eq len_ts)) con_eq (by omega) (by omega))))) skip_eq) ?_
  refine seqS_nx (if_f (or_f (not_t (te (un1_eq (var_tup (xs := ks.map tiD) rfl) rfl))) (te (bin2_eq (callN_eq (argsN_eq (var_tup (xs := ks.map tiD) rfl) args0_eq) (one_eq len_ts)) con_eq (show T.ret (D.bl (decide ((ks.length : Int) > 3))) = _ by rw [decide_eq_false (by omega)])))) skip_eq) ?_
  refine seqS_nx (if_f (not_t (te (callN_eq (argsN_eq (compB (rs := cs ++ ks) (src_ts (bin2_eq (x := tsD cs) (y := tsD ks) rfl rfl (add_ts cs ks (by omega)))) (by simp; omega) fun c hc => ?_) args0_eq) (one_eq (all_true _))))) skip_eq) ?_
  · have hc2 : c ∈ chsN n := (List.mem_append.mp hc).elim (m.cs c) (m.ks c)
    exact callN_eq (argsN_eq (x := .int n) rfl (argsN_eq (x := tiD c) rfl args0_eq)) (cF (B.isch c hc2) rfl)
  · refine retS_eq (bin2_eq (un1_eq (bin2_eq (x := tsD ks) (y := tsD [l]) rfl (cut_eq (d := tsD cs) rfl (part_eq (i := -1) rfl) noP_eq (cutTs_last m.last)) (add_ts ks [l] (by simp; omega))) (lenSetA_ts m.nd (by simp; omega) (by simp))) (bin2_eq (x := .int ks.length) (y := .int 1) (callN_eq (argsN_eq (x := tsD ks) rfl args0_eq) (one_eq len_ts)) con_eq rfl) ?_) (sc_bl _)
    exact (Dn.eq_int _ _).trans (by rw [List.length_append]; simp)
theorem want_meth (B : BF n) (m : MethW n cs ks l) : f_want_method [methD n cs ks] = .ret .non := by
  have f1 := is_meth B m
  exact runF_nx (if_f (not_t (te (callN_eq (argsN_eq (var_M rfl) args0_eq) (cF f1 rfl)))) rfl)
end
end My

set_option Elab.async false
set_option linter.all false
set_option maxRecDepth 100000
set_option maxHeartbeats 600000
namespace My
open PySem PySem.Spec PyProof.Rows L2 Dn
/-! ## k21: turns, orders, leads, courses -/
theorem while_t {c : Dn.Env → T Bool} {body : SD} {k : Nat} {env e : Dn.Env} {t : T Out} (h : c env = .ret true) (hb : body env = .ret (.nx e)) (ht : whileS c body k e = t) : whileS c body (k + 1) env = t :=
  T.bind_eq h ((if_pos rfl).trans (T.bind_eq hb ht))
theorem while_f {c : Dn.Env → T Bool} {body : SD} {k : Nat} {env : Dn.Env} (h : c env = .ret false) : whileS c body (k + 1) env = .ret (.nx env) := T.bind_eq h (if_neg Bool.false_ne_true)
theorem loop_nx {tg : D → Dn.Env → T Dn.Env} {body : SD} {d : D} {ds : List D} {env e1 e2 : Dn.Env} {t : T Out} (h1 : tg d env = .ret e1) (h2 : body e1 = .ret (.nx e2)) (h3 : loopS tg body ds e2 = t) : loopS tg body (d :: ds) env = t := T.bind_eq h1 (T.bind_eq h2 h3)
theorem for_eq {src : Dn.Env → T (List D)} {tg : D → Dn.Env → T Dn.Env} {body : SD} {ds : List D} {env : Dn.Env} {t : T Out} (h1 : src env = .ret ds) (h2 : loopS tg body ds env = t) : forS src tg body env = t := T.bind_eq h1 h2
theorem eq_rowD (f g : Fl) (xs ys : List (List Int)) : D.eq (rowD f xs) (rowD g ys) = .ret (.bl (decide (xs = ys))) := by
  unfold D.eq; rw [if_pos ⟨dok_rowD 62 f xs, dok_rowD 62 g ys⟩, eqv_rowD]
theorem add_rows (f g : Fl) (xs ys : List (List Int)) (h : xs.length + ys.length ≤ 1000000) : D.add (rowD f xs) (rowD g ys) = .ret (rowD .own (xs ++ ys)) := by
  show (if _ then _ else _) = _
  rw [if_pos (by rw [List.length_map, List.length_map]; exact h), ← List.map_append]
  unfold newL
  rw [flat_ti]; rfl
/-! ### powers -/
def powL (n : Nat) (t : List Int) : Nat → List Int
  | 0 => idL n
  | k + 1 => comp (powL n t k) t
structure Ord (n : Nat) (t : List Int) (m : Nat) : Prop where
  pos : 1 ≤ m
  six : m ≤ 6
  back : powL n t m = idL n
  first : ∀ k, 1 ≤ k → k < m → powL n t k ≠ idL n
def permsF (n : Nat) : Nat → List Int → List (List Int)
  | 0, _ => [[]]
  | k + 1, used => ((idL n).filter fun i => !decide (i ∈ used)).flatMap fun i => (permsF n k (i :: used)).map (i :: ·)
theorem perms_mem {n : Nat} : ∀ (k : Nat) (used l : List Int), l.length = k → (∀ i ∈ l, 0 ≤ i ∧ i < n) → l.Nodup → (∀ i ∈ l, i ∉ used) → l ∈ permsF n k used
  | 0, used, l, hl, _, _, _ => by
    rw [List.length_eq_zero_iff.mp hl]
    exact List.mem_singleton.mpr rfl
  | k + 1, used, [], hl, _, _, _ => by cases hl
  | k + 1, used, x :: l, hl, hr, hn, hu => by
    obtain ⟨h1, h2⟩ := List.nodup_cons.mp hn
    have hx := hr x List.mem_cons_self
    refine List.mem_flatMap.mpr ⟨x, List.mem_filter.mpr ⟨?_, ?_⟩, List.mem_map.mpr ⟨l, perms_mem k (x :: used) l (by simpa using hl) (fun i hi => hr i (List.mem_cons_of_mem _ hi)) h2 fun i hi => ?_, rfl⟩⟩
    · unfold idL
      refine List.mem_map.mpr ⟨x.toNat, List.mem_range.mpr (by omega), ?_⟩
      show ((x.toNat : Nat) : Int) = x
      omega
    · rw [decide_eq_false (hu x List.mem_cons_self)]; rfl
    · intro h
      rcases List.mem_cons.mp h with e | h
      · rw [e] at hi; exact h1 hi
      · exact hu i (List.mem_cons_of_mem _ hi) h
def ordB (n : Nat) (t : List Int) : Bool := (List.range 6).any fun k => decide (powL n t (k + 1) = idL n)
theorem ord3 : (permsF 3 3 []).all (ordB 3) = true := by decide +kernel
theorem ord4 : (permsF 4 4 []).all (ordB 4) = true := by decide +kernel
theorem ord5 : (permsF 5 5 []).all (ordB 5) = true := by decide +kernel
theorem ord6 : (permsF 6 6 []).all (ordB 6) = true := by decide +kernel
theorem least {p : Nat → Prop} [DecidablePred p] : ∀ (k : Nat), p k → ∃ m, m ≤ k ∧ p m ∧ ∀ j, j < m → ¬ p j := by
  intro k
  induction k using Nat.strongRecOn with
  | ind k ih =>
    intro hk
    by_cases h : ∃ j, j < k ∧ p j
    · obtain ⟨j, hj, hp⟩ := h
      obtain ⟨m, h1, h2, h3⟩ := ih j hj hp
      exact ⟨m, by omega, h2, h3⟩
    · exact ⟨k, Nat.le_refl _, hk, fun j hj hp => h ⟨j, hj, hp⟩⟩
section
variable {n m : Nat} {cs ks : List (List Int)} {r s t c l : List Int}
theorem ord_ex (B : BF n) (h : Row n t) : ∃ m, Ord n t m := by
  have hb : ordB n t = true := by
    have hm := perms_mem (n := n) n [] t h.len h.rng h.nd fun _ _ h => nomatch h
    have h1 := B.lo
    have h2 := B.hi
    have : n = 3 ∨ n = 4 ∨ n = 5 ∨ n = 6 := by omega
    rcases this with rfl | rfl | rfl | rfl
    · exact List.all_eq_true.mp ord3 t hm
    · exact List.all_eq_true.mp ord4 t hm
    · exact List.all_eq_true.mp ord5 t hm
    · exact List.all_eq_true.mp ord6 t hm
  obtain ⟨k, hk, he⟩ := List.any_eq_true.mp hb
  have hk := List.mem_range.mp hk
  obtain ⟨m, h1, h2, h3⟩ := least (p := fun k => powL n t (k + 1) = idL n) k (of_decide_eq_true he)
  refine ⟨m + 1, by omega, by omega, h2, fun j j1 j2 e => ?_⟩
  obtain ⟨i, rfl⟩ : ∃ i, j = i + 1 := ⟨j - 1, by omega⟩
  exact h3 i (by omega) e
theorem nd_inj {l : List Int} (h : l.Nodup) {i j : Nat} (hi : i < l.length) (hj : j < l.length) (e : l[i] = l[j]) : i = j := by
  have hp := List.pairwise_iff_getElem.mp h
  rcases Nat.lt_trichotomy i j with q | q | q
  · exact absurd e (hp i j hi hj q)
  · exact q
  · exact absurd e.symm (hp j i hj hi q)
theorem comp_row (h : Row n r) (g : Row n s) : Row n (comp r s) := by
  have hin : ∀ i ∈ s, ∃ (k : Nat) (hk : k < r.length), i = (k : Int) ∧ r.getD i.toNat 0 = r[k] := by
    intro i hi
    have := g.rng i hi
    obtain ⟨k, rfl⟩ := Int.eq_ofNat_of_zero_le this.1
    have hk : k < r.length := by rw [h.len]; omega
    exact ⟨k, hk, rfl, by rw [List.getD_eq_getElem?_getD, Int.toNat_natCast, List.getElem?_eq_getElem hk]; rfl⟩
  refine ⟨by unfold comp; rw [List.length_map, g.len], fun x hx => ?_, ?_⟩
  · obtain ⟨i, hi, rfl⟩ := List.mem_map.mp hx
    obtain ⟨k, hk, _, e⟩ := hin i hi
    rw [e]
    exact h.rng _ (List.getElem_mem hk)
  · refine List.pairwise_map.mpr (g.nd.imp_of_mem fun {a b} ha hb hab e => hab ?_)
    obtain ⟨k, hk, e1, e2⟩ := hin a ha
    obtain ⟨k', hk', e1', e2'⟩ := hin b hb
    rw [e2, e2'] at e
    rw [e1, e1', nd_inj h.nd hk hk' e]
theorem pow_row (B : BF n) (h : Row n t) : ∀ k, Row n (powL n t k)
  | 0 => B.idrow
  | k + 1 => comp_row (pow_row B h k) h
theorem comp_idl (h : Row n t) : comp (idL n) t = t := by
  refine (List.map_congr_left fun i hi => ?_).trans (List.map_id t)
  have := h.rng i hi
  obtain ⟨k, rfl⟩ := Int.eq_ofNat_of_zero_le this.1
  have hk : k < n := by omega
  unfold idL
  rw [List.getD_eq_getElem?_getD, Int.toNat_natCast, List.getElem?_map, List.getElem?_range hk]; rfl
theorem rounds_eq (B : BF n) : f_rounds_of [.int n] = .ret (tiD (idL n)) := runF_rt (retS_eq (un1_eq (var_int rfl) B.idr) (clean_ti _))
theorem order_loop (B : BF n) (h : Row n t) (O : Ord n t m) : ∀ (d j fuel : Nat), j + d = m → 1 ≤ j → d < fuel → whileS (testE (bin2 D.ne (var 2) (var 3))) (parS [1, 2] (argsN (bin2 D.add (var 1) (con (.int 1))) (argsN (callN (callF 2 f_times) (argsN (var 2) (argsN (var 0) args0))) args0))) fuel [some (tiD t), some (.int (j : Nat)), some (tiD (powL n t j)), some (tiD (idL n))] = .ret (.nx [some (tiD t), some (.int (m : Nat)), some (tiD (idL n)), some (tiD (idL n))])
  | d, j, 0, _, _, h => absurd h (Nat.not_lt_zero _)
  | 0, j, fuel + 1, hj, h1, _ => by
    have e : j = m := by omega
    subst e
    rw [O.back]
    exact while_f (te ((bin2_eq (var_ti rfl) (var_ti rfl) (ne_ti _ _)).trans (by rw [decide_eq_true rfl]; rfl)))
  | d + 1, j, fuel + 1, hj, h1, hf => by
    refine while_t (te ((bin2_eq (var_ti (r := powL n t j) rfl) (var_ti (r := idL n) rfl) (ne_ti _ _)).trans (by rw [decide_eq_false (O.first j h1 (by omega))]; rfl))) (e := [some (tiD t), some (.int ((j + 1 : Nat) : Int)), some (tiD (powL n t (j + 1))), some (tiD (idL n))]) ?_ (order_loop B h O d (j + 1) fuel (by omega) (by omega) (by omega))
    exact T.bind_eq (argsN_eq (x := .int ((j + 1 : Nat) : Int)) (bin2_eq (var_int rfl) con_eq rfl) (argsN_eq (x := tiD (powL n t (j + 1))) (callN_eq (argsN_eq (var_ti rfl) (argsN_eq (var_ti rfl) args0_eq)) (cF (times_row (pow_row B h j) h B.hi) rfl)) args0_eq)) rfl
theorem order_eq (B : BF n) (h : Row n t) (O : Ord n t m) : f_order_of [tiD t] = .ret (.int (m : Nat)) := by
  have hp := O.pos
  have hs := O.six
  have e1 : powL n t 1 = t := comp_idl h
  have lp := order_loop B h O (m - 1) 1 1000 (by omega) (Nat.le_refl _) (by omega)
  rw [e1] at lp
  refine runF_rt (seqS_nx (e := [some (tiD t), some (.int 1), some (tiD t), some (tiD (idL n))]) (T.bind_eq (argsN_eq (x := .int 1) con_eq (argsN_eq (x := tiD t) (var_ti rfl) (argsN_eq (x := tiD (idL n)) (callN_eq (argsN_eq (x := .int (n : Nat)) ?_ args0_eq) (cF (rounds_eq B) rfl)) args0_eq))) rfl) (seqS_nx lp ?_))
  · rw [← h.len]
    exact callN_eq (argsN_eq (var_ti rfl) args0_eq) (one_eq len_ti)
  · exact (retV_some rfl).trans (if_pos (sc_int _))
/-! ### the law's lead -/
def preL (r : List Int) : List (List Int) → List (List Int)
  | [] => []
  | c :: cs => r :: preL (doneL 0 r c) cs
theorem preL_path : ∀ (ds : List (List Int)) (r c : List Int), preL r (ds ++ [c]) = pathL r ds
  | [], r, c => rfl
  | d :: ds, r, c => by rw [List.cons_append, preL, preL_path ds, pathL]
theorem llead_loop (B : BF n) {a0 a1 a2 a5 : Option D} : ∀ (ds : List (List Int)) (r : List Int) (ps : List (List Int)) (o6 : Option D), (∀ c ∈ ds, c ∈ chsN n) → Row n r → ps.length + ds.length ≤ 100000 →
    ∃ p6, loopS (tgN 6) (seqS (appendS 3 (var 4)) (setS 4 (callN (callF 2 f__law_changed) (argsN (var 4) (argsN (var 6) args0))))) (ds.map tiD) [a0, a1, a2, some (rowD .own ps), some (tiD r), a5, o6] = .ret (.nx [a0, a1, a2, some (rowD .own (ps ++ preL r ds)), some (tiD (endL r ds)), a5, p6])
  | [], r, ps, o6, _, _, _ => ⟨o6, by rw [preL, List.append_nil]; rfl⟩
  | c :: ds, r, ps, o6, hc, h, hl => by
    rw [List.length_cons] at hl
    obtain ⟨p6, e⟩ := llead_loop B (a0 := a0) (a1 := a1) (a2 := a2) (a5 := a5) ds (doneL 0 r c) (ps ++ [r]) (some (tiD c)) (fun d hd => hc d (List.mem_cons_of_mem _ hd)) (h.done c) (by rw [List.length_append, List.length_singleton]; omega)
    refine ⟨p6, loop_nx (e1 := [a0, a1, a2, some (rowD .own ps), some (tiD r), a5, some (tiD c)]) rfl (seqS_nx (e := [a0, a1, a2, some (rowD .own (ps ++ [r])), some (tiD r), a5, some (tiD c)]) ?_ (setS_eq (callN_eq (argsN_eq (var_ti rfl) (argsN_eq (var_ti rfl) args0_eq)) (cF (B.done c (hc c List.mem_cons_self) r h.len) rfl)) rfl)) (e.trans ?_)⟩
    · have := app_eq (i := 3) (e := var 4) (env := [a0, a1, a2, some (rowD .own ps), some (tiD r), a5, some (tiD c)]) (xs := ps.map tiD) (d := tiD r) rfl (var_ti rfl) rfl (by rw [List.length_map]; omega)
      rw [this]
      unfold rowD
      rw [List.map_append (l₂ := [r])]
      rfl
    · rw [preL, List.append_assoc]; rfl
theorem law_lead (B : BF n) (w : MethW n cs ks l) (hr : Row n r) {k : Nat} (hc : (l :: ks)[k]? = some c) : f__law_lead [methD n cs ks, tiD r, .int (k : Nat)] = .ret (.tup [rowD .frz (pathL r cs.dropLast), tiD (doneL 0 (endL r cs.dropLast) c)]) := by
  have hx : cs ≠ [] := by intro e; have := w.last; rw [e] at this; cases this
  have h2 := w.few
  have h3 := w.few2
  have hk2 : ∀ c ∈ l :: ks, c ∈ chsN n := fun c h => (List.mem_cons.mp h).elim (fun e => by rw [e]; exact w.cs l (List.mem_of_getLast? w.last)) (w.ks c)
  have hcm : c ∈ l :: ks := List.mem_of_getElem? hc
  have hds : ∀ d ∈ cs.dropLast ++ [c], d ∈ chsN n := fun d hd => (List.mem_append.mp hd).elim (fun h => w.cs d (dl_mem h)) fun h => by rw [List.mem_singleton.mp h]; exact hk2 c hcm
  obtain ⟨p6, e⟩ := llead_loop B (a0 := some (methD n cs ks)) (a1 := some (tiD r)) (a2 := some (.int (k : Nat))) (a5 := some (tiD c)) (cs.dropLast ++ [c]) r [] none hds hr (by simp; omega)
  rw [List.nil_append, preL_path, endL_app] at e
  have e2 : endL (endL r cs.dropLast) [c] = doneL 0 (endL r cs.dropLast) c := rfl
  rw [e2] at e
  refine runF_rt (seqS_nx (e := [some (methD n cs ks), some (tiD r), some (.int (k : Nat)), some (rowD .own []), some (tiD r), none, none]) (T.bind_eq (argsN_eq (x := rowD .own []) rfl (argsN_eq (x := tiD r) (var_ti rfl) args0_eq)) rfl) (seqS_nx (e := [some (methD n cs ks), some (tiD r), some (.int (k : Nat)), some (rowD .own []), some (tiD r), some (tiD c), none]) (setS_eq (bin2_eq (x := tsD (l :: ks)) (y := .int (k : Nat)) ?_ (var_int rfl) (ixXTs hc)) rfl) (seqS_nx (for_eq (ds := (cs.dropLast ++ [c]).map tiD) ?_ e) (seqS_nx rfl (seqS_nx rfl (retS_eq (callN_eq (argsN_eq (x := rowD .frz (pathL r cs.dropLast)) rfl (argsN_eq (x := tiD (doneL 0 (endL r cs.dropLast) c)) (var_ti rfl) args0_eq)) rfl) ?_))))))
  · exact bin2_eq (cut_eq (d := tsD cs) (bin2_eq (var_M rfl) con_eq mix2) (part_eq (i := -1) rfl) noP_eq (cutTs_last w.last)) (bin2_eq (var_M rfl) con_eq mix3) (add_ts [l] ks (by simp; omega))
  · exact src_ts (bin2_eq (cut_eq (d := tsD cs) (bin2_eq (var_M rfl) con_eq mix2) noP_eq (part_eq (i := -1) rfl) (cutTs_init hx)) (y := tsD [c]) (callN_eq (argsN_eq (var_ti rfl) args0_eq) rfl) (add_ts cs.dropLast [c] (by simp; omega)))
  · rw [clean_tup, cleanL_cons, cleanL_cons, cleanL_nil, clean_rowD rfl, clean_ti]; rfl
/-! ### the law's course -/
abbrev turnL (n : Nat) (cs : List (List Int)) (c : List Int) : List Int := doneL 0 (endL (idL n) cs.dropLast) c
theorem turn_row (B : BF n) : Row n (turnL n cs c) := B.idrow.endL.done c
theorem turn_comp (hr : Row n r) : doneL 0 (endL r cs.dropLast) c = comp r (turnL n cs c) := by
  show _ = comp r (doneL 0 (endL (idL n) cs.dropLast) c)
  rw [comp_done, comp_end, comp_id hr]
end
end My

set_option Elab.async false
set_option linter.all false
set_option maxRecDepth 100000
set_option maxHeartbeats 600000
namespace My
open PySem PySem.Spec PyProof.Rows L2 Dn
/-! ## k21: what is drawn -/
theorem seq_ix {k n : Nat} (h : k < n) : seqIndex? (k : Int) n = some k := by
  have h0 : ¬ ((k : Int) < 0) := by omega
  have h1 : (0 : Int) ≤ k := by omega
  have h2 : (k : Int) < n := by omega
  unfold seqIndex?
  simp only [h0, if_false, h1, h2, decide_true, Bool.and_self, if_true, Int.toNat_natCast]
theorem era_perm {α : Type} : ∀ (l : List α) (k : Nat) (c : α), l[k]? = some c → (c :: l.eraseIdx k).Perm l
  | [], _, _, h => by simp at h
  | x :: l, 0, c, h => by cases h; exact List.Perm.refl _
  | x :: l, k + 1, c, h => (List.Perm.swap x c _).trans ((era_perm l k c h).cons x)
theorem hPopAppD {env : Dn.Env} {i j : Nat} {e : Dn.Env → T D} {ks left : List D} (hij : i ≠ j) (h4 : env[i]? = some (some (.lst .own ks))) (h6 : env[j]? = some (some (.lst .own left))) (hf : left.all flatD = true)
    (he : Hd (e env) fun d => ∃ k : Nat, k < left.length ∧ d = .int k) (l1 : ks.length ≤ 1000) (l2 : left.length ≤ 1000) :
    Hd (appendXS i (popE j e) env) fun o => ∃ (k : Nat) (c : D), left[k]? = some c ∧ o = .nx ((env.set j (some (.lst .own (left.eraseIdx k)))).set i (some (.lst .own (ks ++ [c])))) := by
  have o4 : ownAt env i = some ks := by unfold ownAt; rw [h4]
  have o6 : ownAt env j = some left := by unfold ownAt; rw [h6]
  unfold appendXS
  rw [o4]
  refine hBind (hEq rfl (hBind ?_))
  unfold popE
  rw [o6]
  refine hBind (hEq rfl (hBind (he.mono ?_)))
  rintro _ ⟨k, hk, rfl⟩
  have hc : left[k]? = some left[k] := List.getElem?_eq_getElem hk
  show Hd (if _ then _ else _) _
  rw [if_pos (by omega), seq_ix hk]
  refine hBind (hEq rfl ?_)
  rw [hc]
  refine hBind (hEq rfl ?_)
  rw [if_pos hf]
  refine ⟨?_⟩
  have o4' : ownAt (env.set j (some (.lst .own (left.eraseIdx k)))) i = some ks := by
    unfold ownAt
    rw [List.getElem?_set_ne (fun e => hij e.symm), h4]
  show Hd ((T.ofO (ownAt (env.set j (some (.lst .own (left.eraseIdx k)))) i)).bind _) _
  rw [o4']
  refine hBind (hEq rfl ?_)
  rw [if_pos (by omega)]
  exact ⟨k, left[k], List.getElem?_eq_getElem hk, rfl⟩
theorem hIfS {c : Dn.Env → T Bool} {a b : SD} {env : Dn.Env} {Q : Out → Prop} (h : Hd (c env) fun x => (x = true → Hd (a env) Q) ∧ (x = false → Hd (b env) Q)) : Hd (ifS c a b env) Q :=
  hBind (h.mono fun x q => by
    cases x
    · exact (by rw [if_neg Bool.false_ne_true]; exact q.2 rfl)
    · exact (by rw [if_pos rfl]; exact q.1 rfl))
structure Pl (d : D) : Prop where
  fl : flatD d = true
  dk : dok 63 d = true
  cl : clean d = true
theorem pl_ti (r : List Int) : Pl (tiD r) := ⟨rfl, dok_ti 62 r, clean_ti r⟩
theorem pl_int (i : Int) : Pl (.int i) := ⟨rfl, by rw [dok], sc_int i⟩
theorem dokL_of : ∀ {xs : List D}, (∀ d ∈ xs, Pl d) → dokL 63 xs = true
  | [], _ => by rw [dokL]
  | d :: xs, h => by rw [dokL_cons, (h d List.mem_cons_self).dk, dokL_of fun x hx => h x (List.mem_cons_of_mem _ hx)]; rfl
theorem cleanL_of : ∀ {xs : List D}, (∀ d ∈ xs, Pl d) → cleanL xs = true
  | [], _ => by rw [cleanL_nil]
  | d :: xs, h => by rw [cleanL_cons, (h d List.mem_cons_self).cl, cleanL_of fun x hx => h x (List.mem_cons_of_mem _ hx)]; rfl
theorem ne_nil (f : Fl) {xs : List D} (h : ∀ d ∈ xs, Pl d) : D.ne (.lst f xs) (.lst .own []) = .ret (.bl (!xs.isEmpty)) := by
  unfold D.ne
  rw [if_pos ⟨by rw [dok]; exact dokL_of h, by rw [dok, dokL]⟩, D.eqv]
  cases xs <;> simp [eqvL]
abbrev mixW : SD := appendXS 3 (popE 2 (callN (callF 2 f__law_draw) (argsN (var 0) (argsN (callN (one D.len) (argsN (var 2) args0)) args0))))
theorem mixed_loop {a1 : Option D} : ∀ (k : Nat) (left found : List D) (fuel : Nat), left.length = k → k < fuel → (∀ d ∈ left, Pl d) → found.length + left.length ≤ 999 →
    Hd (whileS (testE (bin2 D.ne (var 2) (callN lstD args0))) mixW fuel [some .pot, a1, some (.lst .own left), some (.lst .own found)]) fun o => ∃ ys, ys.Perm (found ++ left) ∧ o = .nx [some .pot, a1, some (.lst .own []), some (.lst .own ys)]
  | k, left, found, 0, _, h, _, _ => absurd h (Nat.not_lt_zero _)
  | 0, left, found, fuel + 1, hl, _, hp, _ => by
    have e : left = [] := List.length_eq_zero_iff.mp hl
    subst e
    exact hEq (while_f (te ((bin2_eq (x := .lst .bor []) (y := .lst .own []) rfl rfl (ne_nil .bor hp))))) ⟨found, by rw [List.append_nil], rfl⟩
  | k + 1, left, found, fuel + 1, hl, hf, hp, hz => by
    have hne : (!left.isEmpty) = true := by
      cases left with
      | nil => cases hl
      | cons _ _ => rfl
    have hc : testE (bin2 D.ne (var 2) (callN lstD args0)) [some .pot, a1, some (.lst .own left), some (.lst .own found)] = .ret true := te ((bin2_eq (x := .lst .bor left) (y := .lst .own []) rfl rfl (ne_nil .bor hp)).trans (by rw [hne]))
    refine hBind (hEq hc ?_)
    rw [if_pos rfl]
    refine hBind ((hPopAppD (i := 3) (j := 2) (ks := found) (left := left) (by decide) rfl rfl (List.all_eq_true.mpr fun d hd => (hp d hd).fl) (hCall (xs := [.pot, .int (left.length : Nat)]) (argsN_eq (var_pot rfl) (argsN_eq (callN_eq (argsN_eq (x := .lst .bor left) rfl args0_eq) (one_eq rfl)) args0_eq)) (hF ((hDraw (m := (left.length : Nat)) (by omega)).mono ?_))) (by omega) (by omega)).mono ?_)
    · rintro _ ⟨i, i0, i1, rfl⟩
      obtain ⟨j, rfl⟩ := Int.eq_ofNat_of_zero_le i0
      exact ⟨j, by omega, rfl⟩
    · rintro _ ⟨j, c, hjc, rfl⟩
      have hj : j < left.length := (List.getElem?_eq_some_iff.mp hjc).1
      have hl2 : (left.eraseIdx j).length = k := by rw [List.length_eraseIdx, if_pos hj]; omega
      refine (mixed_loop (a1 := a1) k (left.eraseIdx j) (found ++ [c]) fuel hl2 (by omega) (fun d hd => hp d (List.mem_of_mem_eraseIdx hd)) (by rw [List.length_append, List.length_singleton]; omega)).mono ?_
      rintro _ ⟨ys, hy, rfl⟩
      refine ⟨ys, hy.trans ?_, rfl⟩
      rw [List.append_assoc]
      exact (era_perm left j c hjc).append_left found
theorem mixed_ok {xs : List D} {x : D} (hx : toArg x = .lst .arg xs) (hp : ∀ d ∈ xs, Pl d) (hl : xs.length ≤ 999) : Hd (f__law_mixed [.pot, x]) fun d => ∃ ys, ys.Perm xs ∧ d = .lst .own ys := by
  refine hFn ?_
  show Hd (s__law_mixed [some .pot, some (toArg x), none, none]) _
  rw [hx]
  have hn : newL xs = .lst .own xs := by
    unfold newL
    rw [if_pos (List.all_eq_true.mpr fun d hd => (hp d hd).fl)]
  refine kseqE (e := [some .pot, some (.lst .arg xs), some (.lst .own xs), some (.lst .own [])]) (T.bind_eq (argsN_eq (x := .lst .own xs) (callN_eq (argsN_eq (x := .lst .arg xs) rfl args0_eq) (one_eq (congrArg T.ret hn))) (argsN_eq (x := .lst .own []) rfl args0_eq)) rfl) ?_
  refine kseq ((mixed_loop xs.length xs [] 1000 rfl (by omega) hp (by rw [List.length_nil]; omega)).mono ?_)
  rintro _ ⟨ys, hy, rfl⟩
  have hy : ys.Perm xs := hy
  refine ⟨_, rfl, hEq ((retV_some rfl).trans (if_pos ?_)) ⟨_, rfl, ys, hy, rfl⟩⟩
  rw [clean_lst, cleanL_of fun d hd => hp d (hy.mem_iff.mp hd)]; rfl
theorem pick_ok (B : BF n) {x : D} (hx : toArg x = rowD .arg (chsN n)) : Hd (f__law_pick [.pot, x]) fun d => ∃ c, c ∈ chsN n ∧ d = tiD c := by
  have h1 := B.pos
  have h2 := B.few
  have ev : var 1 ([D.pot, x].map (fun d => some (toArg d)) ++ List.replicate (2 - [D.pot, x].length) none) = .ret (rowD .arg (chsN n)) := var_arg (by show some (some (toArg x)) = _; rw [hx])
  refine hFn (hRet (hBin (hEq ev (hCall (xs := [.pot, .int (chsN n).length]) (argsN_eq (var_pot rfl) (argsN_eq (callN_eq (argsN_eq ev rfl) (one_eq len_row)) rfl)) (hF ((hDraw (m := (chsN n).length) (by omega)).mono ?_))))))
  rintro _ ⟨i, i0, i1, rfl⟩
  obtain ⟨k, rfl⟩ := Int.eq_ofNat_of_zero_le i0
  have hk : k < (chsN n).length := by omega
  exact hEq (ixXR (List.getElem?_eq_getElem hk)) ⟨clean_ti _, _, rfl, _, List.getElem_mem hk, rfl⟩
theorem tiD_inj {a b : List Int} (h : tiD a = tiD b) : a = b := by
  unfold tiD at h
  injection h with h
  exact List.map_inj_right (fun x y e => by injection e) |>.mp h
theorem tis_of_perm {ys : List D} {l : List (List Int)} (h : ys.Perm (l.map tiD)) : ∃ ks : List (List Int), ys = ks.map tiD ∧ (∀ c ∈ ks, c ∈ l) ∧ (l.Nodup → ks.Nodup) := by
  have gen : ∀ zs : List D, (∀ d ∈ zs, d ∈ l.map tiD) → ∃ ks : List (List Int), zs = ks.map tiD ∧ ∀ c ∈ ks, c ∈ l := by
    intro zs
    induction zs with
    | nil => exact fun _ => ⟨[], rfl, fun _ h => nomatch h⟩
    | cons d zs ih =>
      intro hm
      obtain ⟨ks, e, hk⟩ := ih fun x hx => hm x (List.mem_cons_of_mem _ hx)
      obtain ⟨c, hc, rfl⟩ := List.mem_map.mp (hm d List.mem_cons_self)
      exact ⟨c :: ks, by rw [e]; rfl, fun x hx => (List.mem_cons.mp hx).elim (fun e => by rw [e]; exact hc) (hk x)⟩
  obtain ⟨ks, e, hk⟩ := gen ys fun d hd => h.mem_iff.mp hd
  refine ⟨ks, e, hk, fun nd => ?_⟩
  have n1 : (l.map tiD).Nodup := List.pairwise_map.mpr (nd.imp fun {a b} hab e => hab (tiD_inj e))
  have n2 : ys.Nodup := h.nodup_iff.mpr n1
  rw [e] at n2
  exact (List.pairwise_map.mp n2).imp fun {a b} hab e => hab (by rw [e])
section
variable {n : Nat} {cs ks : List (List Int)} {r s c l : List Int}
abbrev chgP (n : Nat) (lim : Nat) (o : Out) (pre post : Dn.Env) : Prop := ∃ cs x8 x10 x11, cs ≠ [] ∧ cs.length ≤ lim ∧ (∀ c ∈ cs, c ∈ chsN n) ∧ o = .nx (pre ++ [x8, some (rowD .own cs), x10, x11] ++ post)
theorem cutR_init (f : Fl) (hs : List (List Int)) : ∃ gs : List (List Int), (∀ c ∈ gs, c ∈ hs) ∧ gs.length ≤ hs.length ∧ D.cut (rowD f hs) none (some (-1)) = .ret (rowD .own gs) := by
  refine ⟨cutL hs none (some (-1)), fun c hc => ?_, ?_, ?_⟩
  · unfold cutL at hc
    exact List.mem_of_mem_drop (List.mem_of_mem_take hc)
  · unfold cutL
    rw [List.length_take, List.length_drop]; omega
  · show T.ret (newL (cutL (hs.map tiD) none (some (-1)))) = _
    have : cutL (hs.map tiD) none (some (-1)) = (cutL hs none (some (-1))).map tiD := by
      unfold cutL
      rw [List.length_map, ← List.map_drop, ← List.map_take]
    rw [this]
    unfold newL
    rw [flat_ti]; rfl
theorem cutR_to (f : Fl) (hs : List (List Int)) (j : Int) : D.cut (rowD f hs) none (some j) = .ret (rowD .own (cutL hs none (some j))) := by
  show T.ret (newL (cutL (hs.map tiD) none (some j))) = _
  have : cutL (hs.map tiD) none (some j) = (cutL hs none (some j)).map tiD := by
    unfold cutL
    rw [List.length_map, ← List.map_drop, ← List.map_take]
  rw [this]
  unfold newL
  rw [flat_ti]; rfl
theorem cutL_sub {α : Type} (xs : List α) (hi : Option Int) : (cutL xs none hi).Sublist xs := by
  unfold cutL
  exact (List.take_sublist _ _).trans (List.drop_sublist _ _)
theorem cutL_3 {α : Type} (xs : List α) : (cutL xs none (some 3)).length ≤ 3 := by
  unfold cutL
  rw [HT.sIx_none, show HT.sIx xs.length xs.length (some 3) = min 3 xs.length from HT.sIx_nat _ _ 3, List.length_take]; omega
theorem law_method {mo : Int} (h5 : mo = 5 ∨ mo = 6) : Hd (f__law_method [.pot, .int 3, .int mo, .int 8]) fun d => ∃ n cs ks l, BF n ∧ MethW n cs ks l ∧ cs.length ≤ 12 ∧ d = methD n cs ks := by
  refine hFn ?_
  show Hd (s__law_method [some .pot, some (.int 3), some (.int mo), some (.int 8), none, none, none, none, none, none, none, none, none, none, none]) _
  unfold s__law_method
  refine kseq (hSet (hBin (hEq (a := .int 3) rfl (hCall (xs := [.pot, .int (mo - 3 + 1)]) (argsN_eq (var_pot rfl) (argsN_eq (bin2_eq (bin2_eq (var_int rfl) (var_int rfl) rfl) con_eq rfl) args0_eq)) (hF ((hDraw (m := mo - 3 + 1) (by omega)).mono ?_))))))
  rintro _ ⟨i, i0, i1, rfl⟩
  obtain ⟨n, hn, B⟩ := bfs i i0 (by omega)
  refine hEq (a := .int (3 + i)) rfl ⟨rfl, _, rfl, ?_⟩
  rw [hn]
  show Hd (seqS _ _ [some .pot, some (.int 3), some (.int mo), some (.int 8), some (.int (n : Nat)), none, none, none, none, none, none, none, none, none, none]) _
  refine kseq (hPar (hArgE (x := rowD .own (chsN n)) (callN_eq (argsN_eq (var_int rfl) args0_eq) (cF B.chs rfl)) (hArgs (hCall (xs := [.pot, .int 4]) (argsN_eq (var_pot rfl) (argsN_eq con_eq args0_eq)) (hF ((hDraw (m := 4) (by decide)).mono ?_))))))
  rintro _ ⟨way, w0, w1, rfl⟩
  refine hArg0 ⟨[some .pot, some (.int 3), some (.int mo), some (.int 8), some (.int (n : Nat)), some (rowD .own (chsN n)), some (.int way), none, none, none, none, none, none, none, none], rfl, _, rfl, ?_⟩
  refine kseq (hSet (hBin (hEq (a := .int 1) rfl (hCall (xs := [.pot, .int 8]) (argsN_eq (var_pot rfl) (argsN_eq (var_int rfl) args0_eq)) (hF ((hDraw (m := 8) (by decide)).mono ?_))))))
  rintro _ ⟨mi, m0, m1, rfl⟩
  refine hEq (a := .int (1 + mi)) rfl ⟨rfl, [some .pot, some (.int 3), some (.int mo), some (.int 8), some (.int (n : Nat)), some (rowD .own (chsN n)), some (.int way), some (.int (1 + mi)), none, none, none, none, none, none, none], rfl, ?_⟩
  have pick : ∀ env : Dn.Env, var 0 env = .ret .pot → var 5 env = .ret (rowD .bor (chsN n)) → Hd (callN (callF 2 f__law_pick) (argsN (var 0) (argsN (var 5) args0)) env) fun d => ∃ c, c ∈ chsN n ∧ d = tiD c := fun env h0 h5 => hCall (xs := [.pot, rowD .bor (chsN n)]) (argsN_eq h0 (argsN_eq h5 args0_eq)) (hF (pick_ok B rfl))
  let pre : Dn.Env := [some .pot, some (.int 3), some (.int mo), some (.int 8), some (.int (n : Nat)), some (rowD .own (chsN n)), some (.int way), some (.int (1 + mi))]
  refine kseq (Hd.mono (P := fun o => chgP n 12 o pre [none, none, none]) ?_ ?_)
  · refine hIfS (hEq (a := (way == 0)) (te (bin2_eq (var_int rfl) con_eq (Dn.eq_int _ _))) ⟨fun _ => ?_, fun _ => ?_⟩)
    · -- there and back
      have hm2 : 0 ≤ (1 + mi) / 2 ∧ (1 + mi) / 2 ≤ 4 := by omega
      refine kseq (hSet ((hCompR (P := fun c => c ∈ chsN n) (L := fun k => 1 ≤ k ∧ k ≤ 5) (hEq (a := rgD 0 (1 + (1 + mi) / 2)) (rg_eq (bin2_eq (x := .int 1) (y := .int ((1 + mi) / 2)) rfl (bin2_eq (var_int rfl) con_eq rfl) rfl) (by omega)) ⟨by rw [rgD_len]; omega, by rw [rgD_len]; omega, fun d hd => ?_⟩)).mono ?_))
      · exact hBind (hEq (a := pre ++ [none, none, none, none, none, some d, none]) rfl (pick _ (var_pot rfl) (var_own rfl)))
      · rintro _ ⟨hs, hhs, hl, rfl⟩
        refine ⟨rfl, pre ++ [some (rowD .own hs), none, none, none, none, none, none], rfl, ?_⟩
        obtain ⟨gs, g1, g2, g3⟩ := cutR_init .bor hs
        refine hSet (hBin (hEq (a := rowD .own (hs ++ gs.reverse)) ?_ (hCallD (hArgs ((pick _ (var_pot rfl) (var_own rfl)).mono ?_)))))
        · refine bin2_eq (y := rowD .own gs.reverse) (var_own rfl) (un1_eq (T.bind_eq (var_own rfl) (T.bind_eq (a := none) rfl (T.bind_eq (a := some (-1)) rfl g3))) ?_) (add_rows _ _ _ _ (by rw [List.length_reverse]; omega))
          show T.ret (newL (gs.map tiD).reverse) = _
          rw [← List.map_reverse]
          unfold newL
          rw [flat_ti]; rfl
        · rintro _ ⟨c, hc, rfl⟩
          refine hArg0 (hEq (a := rowD .own [c]) rfl (hEq (add_rows _ _ _ _ (by rw [List.length_append, List.length_reverse, List.length_singleton]; omega)) ⟨rfl, _, _, _, _, ?_, ?_, ?_, rfl⟩))
          · simp
          · rw [List.length_append, List.length_append, List.length_reverse, List.length_singleton]; omega
          · intro x hx
            rcases List.mem_append.mp hx with h | h
            · rcases List.mem_append.mp h with h | h
              · exact hhs x h
              · exact hhs x (g1 x (List.mem_reverse.mp h))
            · rw [List.mem_singleton.mp h]; exact hc
    · refine hIfS (hEq (a := (way == 1)) (te (bin2_eq (var_int rfl) con_eq (Dn.eq_int _ _))) ⟨fun _ => ?_, fun _ => ?_⟩)
      · -- two in turn
        refine kseq (hPar (hArgs ((pick _ (var_pot rfl) (var_own rfl)).mono ?_)))
        rintro _ ⟨c1, hc1, rfl⟩
        refine hArgs ((pick _ (var_pot rfl) (var_own rfl)).mono ?_)
        rintro _ ⟨c2, hc2, rfl⟩
        refine hArg0 ⟨pre ++ [none, none, some (tiD c1), some (tiD c2), none, none, none], rfl, _, rfl, ?_⟩
        refine hSet ((hCompR (P := fun c => c ∈ chsN n) (L := fun k => 1 ≤ k ∧ k ≤ 9) (hEq (a := rgD 0 (1 + mi + 1)) (rg_eq (bin2_eq (var_int rfl) con_eq rfl) (by omega)) ⟨by rw [rgD_len]; omega, by rw [rgD_len]; omega, fun d hd => ?_⟩)).mono ?_)
        · obtain ⟨j, hj, rfl⟩ := List.mem_map.mp hd
          refine hBind (hEq (a := pre ++ [none, none, some (tiD c1), some (tiD c2), none, some (.int (0 + (j : Int))), none]) rfl (hEq (a := if (0 + (j : Int)) % 2 == 0 then tiD c1 else tiD c2) ?_ ?_))
          · refine T.bind_eq (te (bin2_eq (x := .int ((0 + (j : Int)) % 2)) (bin2_eq (callN_eq (argsN_eq (var_int rfl) args0_eq) (one_eq rfl)) con_eq rfl) con_eq (Dn.eq_int _ _))) ?_
            cases (0 + (j : Int)) % 2 == 0
            · rw [if_neg Bool.false_ne_true, if_neg Bool.false_ne_true]; exact var_ti rfl
            · rw [if_pos rfl, if_pos rfl]; exact var_ti rfl
          · cases (0 + (j : Int)) % 2 == 0
            · exact ⟨c2, hc2, rfl⟩
            · exact ⟨c1, hc1, rfl⟩
        · rintro _ ⟨hs, hhs, hl, rfl⟩
          exact ⟨rfl, hs, none, _, _, by intro e; rw [e] at hl; exact absurd hl.1 (by decide), by omega, hhs, rfl⟩
      · refine hSet ((hCompR (P := fun c => c ∈ chsN n) (L := fun k => 1 ≤ k ∧ k ≤ 8) (hEq (a := rgD 0 (1 + mi)) (rg_eq (var_int rfl) (by omega)) ⟨by rw [rgD_len]; omega, by rw [rgD_len]; omega, fun d hd => ?_⟩)).mono ?_)
        · exact hBind (hEq (a := pre ++ [none, none, none, none, none, some d, none]) rfl (pick _ (var_pot rfl) (var_own rfl)))
        · rintro _ ⟨hs, hhs, hl, rfl⟩
          exact ⟨rfl, hs, none, none, none, by intro e; rw [e] at hl; exact absurd hl.1 (by decide), by omega, hhs, rfl⟩
  rintro _ ⟨cs, x8, x10, x11, hx, hlen, hcs, rfl⟩
  obtain ⟨l, hlast⟩ : ∃ l, cs.getLast? = some l := ⟨cs.getLast hx, List.getLast?_eq_some_getLast hx⟩
  have hfew := B.few
  refine ⟨_, rfl, ?_⟩
  have f1 : D.ix (rowD .bor cs) (.int (-1)) = .ret (tiD l) := ixXR_last hlast
  have hlf : ((chsN n).filter fun c => !decide (c = l)).length ≤ 999 := Nat.le_trans (List.length_filter_le _ _) (by have := B.few; omega)
  refine kseq (hSet (hCall (xs := [.pot, rowD .own ((chsN n).filter fun c => !decide (c = l))]) (argsN_eq (var_pot rfl) (argsN_eq (compF (fun c => !decide (c = l)) (src_row (f := .bor) (.inr rfl) (var_own rfl)) (by omega) fun r hr => ⟨te (bin2_eq (var_ti (r := r) rfl) (bin2_eq (var_own (rs := cs) rfl) rfl f1) (ne_ti r l)), var_ti rfl⟩) args0_eq)) (hF ((mixed_ok (xs := ((chsN n).filter fun c => !decide (c = l)).map tiD) rfl (fun d hd => by
    obtain ⟨c, _, rfl⟩ := List.mem_map.mp hd
    exact pl_ti c) (by rw [List.length_map]; exact hlf)).mono ?_))))
  rintro _ ⟨ys, hy, rfl⟩
  obtain ⟨ks, rfl, hk1, hk2⟩ := tis_of_perm hy
  have hkn := hk2 (B.nd.filter _)
  refine ⟨rfl, pre ++ [x8, some (rowD .own cs), x10, x11] ++ [some (rowD .own ks), none, none], rfl, ?_⟩
  refine kseqE (e := pre ++ [x8, some (rowD .own cs), x10, x11] ++ [some (rowD .own ks), none, none]) rfl ?_
  refine hRet (hCallD (hArgE con_eq (hArgE (var_int rfl) (hArgE (callN_eq (argsN_eq (var_own rfl) args0_eq) (one_eq toTup_row)) (hArgs (hCallD (hArgs ?_)))))))
  have hkl : ks.length < 1000 := by
    have := hy.length_eq
    rw [List.length_map, List.length_map] at this
    omega
  refine hBind (hBind (hEq (a := rowD .bor ks) (var_own rfl) (hBind (hEq (a := none) rfl (hBind (hBind (hCall (xs := [.pot, .int ((if (if (ks.length : Int) + 1 > 1 then (ks.length : Int) + 1 else 1) < 3 then (if (ks.length : Int) + 1 > 1 then (ks.length : Int) + 1 else 1) else 3) + 1)]) (argsN_eq (var_pot rfl) (argsN_eq (bin2_eq (x := .int (if (if (ks.length : Int) + 1 > 1 then (ks.length : Int) + 1 else 1) < 3 then (if (ks.length : Int) + 1 > 1 then (ks.length : Int) + 1 else 1) else 3)) ?_ con_eq rfl) args0_eq)) (hF ((hDraw ?_).mono ?_)))))))))
  · refine callN_eq (argsN_eq con_eq (argsN_eq (x := .int (if (ks.length : Int) + 1 > 1 then (ks.length : Int) + 1 else 1)) (callN_eq (argsN_eq con_eq (argsN_eq (x := .int ((ks.length : Int) + 1)) (bin2_eq (callN_eq (argsN_eq (var_own rfl) args0_eq) (one_eq len_row)) con_eq rfl) args0_eq)) rfl) args0_eq)) rfl
  · split <;> (try split) <;> omega
  rintro _ ⟨j, j0, j1, rfl⟩
  refine hEq (a := some j) rfl (hEq (cutR_to _ _ _) (hBind (hEq (a := none) rfl (hBind (hEq (a := some 3) rfl (hEq (cutR_to _ _ _) (hArg0 (hEq toTup_row (hArg0 ?_)))))))))
  have hsub : (cutL (cutL ks none (some j)) none (some 3)).Sublist ks := (cutL_sub _ _).trans (cutL_sub _ _)
  refine hEq (a := methD n cs (cutL (cutL ks none (some j)) none (some 3))) rfl ⟨?_, _, rfl, n, cs, _, l, B, ⟨by omega, cutL_3 _, hlast, ?_, hcs, fun c hc => (List.mem_filter.mp (hk1 c (hsub.subset hc))).1⟩, hlen, rfl⟩
  · unfold methD tsD
    rw [clean_tup, cleanL_cons, cleanL_cons, cleanL_cons, cleanL_cons, cleanL_nil, clean_tup, clean_tup, clean_tis, clean_tis, clean, clean]; rfl
  · refine List.nodup_append.mpr ⟨hkn.sublist hsub, List.nodup_cons.mpr ⟨List.not_mem_nil, List.nodup_nil⟩, fun a ha b hb => ?_⟩
    rw [List.mem_singleton.mp hb]
    have := (List.mem_filter.mp (hk1 a (hsub.subset ha))).2
    simpa using this
end
end My

set_option Elab.async false
set_option linter.all false
set_option maxRecDepth 100000
set_option maxHeartbeats 1000000
namespace My
open PySem PySem.Spec PyProof.Rows L2 Dn
/-! ## courses: rows of a method rung on and on -/
def invL (n : Nat) (r : List Int) : List Int := (idL n).map fun i => ((r.idxOf i : Nat) : Int)
def invB (n : Nat) (r : List Int) : Bool := rowB n (invL n r) && decide (comp r (invL n r) = idL n) && decide (comp (invL n r) r = idL n)
theorem inv3 : (permsF 3 3 []).all (invB 3) = true := by decide +kernel
theorem inv4 : (permsF 4 4 []).all (invB 4) = true := by decide +kernel
theorem inv5 : (permsF 5 5 []).all (invB 5) = true := by decide +kernel
theorem inv6 : (permsF 6 6 []).all (invB 6) = true := by decide +kernel
theorem four {n : Nat} (B : BF n) : n = 3 ∨ n = 4 ∨ n = 5 ∨ n = 6 := by
  have h1 := B.lo
  have h2 := B.hi
  omega
theorem perm_in {n : Nat} {r : List Int} (h : Row n r) : r ∈ permsF n n [] := perms_mem (n := n) n [] r h.len h.rng h.nd fun _ _ h => nomatch h
section
variable {n m N : Nat} {cs ks : List (List Int)} {a b r s t c l : List Int}
theorem inv_all (B : BF n) (h : Row n r) : Row n (invL n r) ∧ comp r (invL n r) = idL n ∧ comp (invL n r) r = idL n := by
  have hm := perm_in h
  have hb : invB n r = true := by
    rcases four B with rfl | rfl | rfl | rfl
    · exact List.all_eq_true.mp inv3 r hm
    · exact List.all_eq_true.mp inv4 r hm
    · exact List.all_eq_true.mp inv5 r hm
    · exact List.all_eq_true.mp inv6 r hm
  unfold invB at hb
  rw [Bool.and_eq_true, Bool.and_eq_true, decide_eq_true_eq, decide_eq_true_eq] at hb
  exact ⟨rowB_ok hb.1.1, hb.1.2, hb.2⟩
theorem comp_assoc (hb : Row n b) (hc : Row n c) : comp (comp a b) c = comp a (comp b c) := by
  unfold comp
  rw [List.map_map]
  refine List.map_congr_left fun i hi => ?_
  have hr := hc.rng i hi
  obtain ⟨k, rfl⟩ := Int.eq_ofNat_of_zero_le hr.1
  have hk : k < b.length := by rw [hb.len]; omega
  show (b.map fun i => a.getD i.toNat 0).getD (Int.toNat (k : Int)) 0 = a.getD (b.getD (Int.toNat (k : Int)) 0).toNat 0
  rw [Int.toNat_natCast, List.getD_eq_getElem?_getD, List.getElem?_map, List.getElem?_eq_getElem hk, List.getD_eq_getElem?_getD (l := b), List.getElem?_eq_getElem hk]; rfl
/-- from the left -/
theorem comp_left (B : BF n) (hr : Row n r) (hs : Row n s) (ht : Row n t) (e : comp r s = comp r t) : s = t := by
  obtain ⟨h1, h2, h3⟩ := inv_all B hr
  rw [← comp_idl hs, ← comp_idl ht, ← h3, comp_assoc hr hs, comp_assoc hr ht, e]
theorem comp_right (B : BF n) (hr : Row n r) (hs : Row n s) (ht : Row n t) (e : comp s r = comp t r) : s = t := by
  obtain ⟨h1, h2, h3⟩ := inv_all B hr
  rw [← comp_id hs, ← comp_id ht, ← h2, ← comp_assoc hr h1, ← comp_assoc hr h1, e]
/-! ### rung on and on -/
def gc (cs : List (List Int)) (i : Nat) : List Int := cs.getD (i % cs.length) []
def sq (n : Nat) (cs : List (List Int)) : Nat → List Int
  | 0 => idL n
  | i + 1 => doneL 0 (sq n cs i) (gc cs i)
theorem sq_row (B : BF n) : ∀ i, Row n (sq n cs i)
  | 0 => B.idrow
  | i + 1 => (sq_row B i).done _
theorem sq_take : ∀ i, i ≤ cs.length → sq n cs i = endL (idL n) (cs.take i)
  | 0, _ => rfl
  | i + 1, h => by
    have hg : gc cs i = cs[i] := by
      unfold gc
      rw [Nat.mod_eq_of_lt (by omega), List.getD_eq_getElem?_getD, List.getElem?_eq_getElem (by omega)]; rfl
    rw [sq, sq_take i (by omega), hg, List.take_succ_eq_append_getElem (by omega), endL_app]; rfl
theorem last_split (h : cs.getLast? = some l) : cs.dropLast ++ [l] = cs := by
  obtain ⟨ys, e⟩ := List.getLast?_eq_some_iff.mp h
  rw [e, List.dropLast_concat]
theorem sq_turn (h : cs.getLast? = some l) : turnL n cs l = sq n cs cs.length := by
  rw [sq_take _ (Nat.le_refl _), List.take_length]
  show doneL 0 (endL (idL n) cs.dropLast) l = _
  conv => rhs; rw [← last_split h]
  rw [endL_app]; rfl
theorem sq_init (h : cs ≠ []) : endL (idL n) cs.dropLast = sq n cs (cs.length - 1) := by
  rw [sq_take _ (by omega), List.dropLast_eq_take]
theorem lead_sq (h : cs ≠ []) : pathL (idL n) cs.dropLast = (List.range cs.length).map (sq n cs) := by
  have hp : 0 < cs.length := List.length_pos_iff.mpr h
  have e : ∃ l, cs.getLast? = some l := by
    cases q : cs.getLast? with
    | none => exact absurd (List.getLast?_eq_none_iff.mp q) h
    | some l => exact ⟨l, rfl⟩
  obtain ⟨l, hl⟩ := e
  have gen : ∀ (ds es fs : List (List Int)), es ++ ds ++ fs = cs → pathL (sq n cs es.length) ds = ((List.range (ds.length + 1)).map fun i => sq n cs (es.length + i)) := by
    intro ds
    induction ds with
    | nil => intro es fs _; rfl
    | cons d ds ih =>
      intro es fs e
      have hlt : es.length < cs.length := by rw [← e, List.length_append, List.length_append, List.length_cons]; omega
      have hg : gc cs es.length = d := by
        unfold gc
        rw [Nat.mod_eq_of_lt hlt, List.getD_eq_getElem?_getD, ← e, List.append_assoc, List.getElem?_append_right (Nat.le_refl _), Nat.sub_self]; rfl
      have ih := ih (es ++ [d]) fs (by rw [List.append_assoc es [d] ds]; exact e)
      rw [List.length_append, List.length_singleton] at ih
      have e1 : sq n cs (es.length + 1) = doneL 0 (sq n cs es.length) d := by rw [sq, hg]
      rw [pathL, ← e1, ih, List.length_cons, List.range_succ_eq_map (n := ds.length + 1), List.map_cons, List.map_map]
      refine congrArg _ (List.map_congr_left fun i _ => ?_)
      show sq n cs (es.length + 1 + i) = sq n cs (es.length + (i + 1))
      rw [show es.length + 1 + i = es.length + (i + 1) by omega]
  have := gen cs.dropLast [] [l] (by rw [List.nil_append]; exact last_split hl)
  rw [List.length_dropLast, show cs.length - 1 + 1 = cs.length by omega] at this
  refine this.trans (List.map_congr_left fun i _ => ?_)
  show sq n cs (0 + i) = _
  rw [Nat.zero_add]
/-! ### on behind a whole lead -/
theorem sq_add (B : BF n) : ∀ i, sq n cs (cs.length + i) = comp (sq n cs cs.length) (sq n cs i)
  | 0 => (comp_id (sq_row B _)).symm
  | i + 1 => by
    have hg : gc cs (cs.length + i) = gc cs i := by
      unfold gc
      rw [Nat.add_mod_left]
    show doneL 0 (sq n cs (cs.length + i)) (gc cs (cs.length + i)) = comp _ (doneL 0 (sq n cs i) (gc cs i))
    rw [sq_add B i, hg, comp_done]
theorem sq_mul (B : BF n) : ∀ k i, sq n cs (k * cs.length + i) = comp (powL n (sq n cs cs.length) k) (sq n cs i)
  | 0, i => by rw [Nat.zero_mul, Nat.zero_add, powL, comp_idl (sq_row B i)]
  | k + 1, i => by
    have hT : Row n (sq n cs cs.length) := sq_row B _
    rw [show (k + 1) * cs.length + i = k * cs.length + (cs.length + i) by rw [Nat.succ_mul]; omega, sq_mul B k, sq_add B, powL, comp_assoc hT (sq_row B i)]
theorem pow_sq (B : BF n) (k : Nat) : powL n (sq n cs cs.length) k = sq n cs (k * cs.length) := by
  have := sq_mul (cs := cs) B k 0
  rw [Nat.add_zero] at this
  rw [this]
  exact (comp_id (pow_row B (sq_row B _) k)).symm
theorem pow_add (B : BF n) (h : Row n t) : ∀ i j, powL n t (i + j) = comp (powL n t i) (powL n t j)
  | i, 0 => (comp_id (pow_row B h i)).symm
  | i, j + 1 => by
    show comp (powL n t (i + j)) t = comp (powL n t i) (comp (powL n t j) t)
    rw [pow_add B h i j, comp_assoc (pow_row B h j) h]
theorem pow_mod (B : BF n) (h : Row n t) (O : Ord n t m) (k : Nat) : powL n t k = powL n t (k % m) := by
  have hp : ∀ u, powL n t (m * u) = idL n := by
    intro u
    induction u with
    | zero => rfl
    | succ u ih => rw [Nat.mul_succ, pow_add B h, ih, O.back, comp_id B.idrow]
  conv => lhs; rw [← Nat.div_add_mod k m]
  rw [pow_add B h, hp, comp_idl (pow_row B h _)]
/-- two rows the same at places that are not the same in the lead -/
def PB (n : Nat) (cs : List (List Int)) : Prop := ∃ a b : Nat, ¬ ((cs.length : Int) ∣ (a : Int) - b) ∧ sq n cs a = sq n cs b
def FHm (n : Nat) (cs : List (List Int)) (x : List Int) : Prop := ∃ p q : Nat, p < cs.length ∧ q < cs.length ∧ p ≠ q ∧ x = comp (sq n cs p) (invL n (sq n cs q))
theorem pb_of (B : BF n) {k : Nat} (h : FHm n cs (powL n (sq n cs cs.length) k)) : PB n cs := by
  obtain ⟨p, q, hp, hq, hpq, e⟩ := h
  obtain ⟨i1, i2, i3⟩ := inv_all B (sq_row B (cs := cs) q)
  refine ⟨k * cs.length + q, p, fun hd => ?_, ?_⟩
  · have h2 : (cs.length : Int) ∣ (q : Int) - p := by
      have h3 : ((k * cs.length + q : Nat) : Int) - p = (cs.length : Int) * k + ((q : Int) - p) := by
        rw [Int.natCast_add, Int.natCast_mul, Int.mul_comm]; omega
      rw [h3] at hd
      exact (Int.dvd_add_right (Int.dvd_mul_right _ _)).mp hd
    obtain ⟨z, hz⟩ := h2
    have : z = 0 := by
      rcases Int.lt_trichotomy z 0 with c | c | c
      · have : (cs.length : Int) * z ≤ (cs.length : Int) * (-1) := Int.mul_le_mul_of_nonneg_left (by omega) (by omega)
        omega
      · exact c
      · have : (cs.length : Int) * 1 ≤ (cs.length : Int) * z := Int.mul_le_mul_of_nonneg_left (by omega) (by omega)
        omega
    rw [this, Int.mul_zero] at hz
    omega
  · rw [sq_mul B, e, comp_assoc i1 (sq_row B q), i3, comp_id (sq_row B p)]
theorem pb_to (B : BF n) (hx : cs ≠ []) (O : Ord n (sq n cs cs.length) m) (h : PB n cs) : ∃ k, k < m ∧ FHm n cs (powL n (sq n cs cs.length) k) := by
  have hN : 0 < cs.length := List.length_pos_iff.mpr hx
  have hT : Row n (sq n cs cs.length) := sq_row B _
  have main : ∀ u v p q : Nat, p < cs.length → q < cs.length → p ≠ q → u ≤ v → sq n cs (u * cs.length + p) = sq n cs (v * cs.length + q) → ∃ k, k < m ∧ FHm n cs (powL n (sq n cs cs.length) k) := by
    intro u v p q hp hq hpq huv e
    obtain ⟨i1, i2, i3⟩ := inv_all B (sq_row B (cs := cs) q)
    rw [sq_mul B, sq_mul B, show v = u + (v - u) by omega, pow_add B hT, comp_assoc (pow_row B hT _) (sq_row B q)] at e
    have e2 := comp_left B (pow_row B hT u) (sq_row B p) (comp_row (pow_row B hT _) (sq_row B q)) e
    have hpm := O.pos
    refine ⟨(v - u) % m, Nat.mod_lt _ (by omega), p, q, hp, hq, hpq, ?_⟩
    rw [← pow_mod B hT O, e2, comp_assoc (sq_row B q) i1, i2, comp_id (pow_row B hT _)]
  obtain ⟨a, b, hd, e⟩ := h
  have ha : a = a / cs.length * cs.length + a % cs.length := by rw [Nat.mul_comm]; exact (Nat.div_add_mod a cs.length).symm
  have hb : b = b / cs.length * cs.length + b % cs.length := by rw [Nat.mul_comm]; exact (Nat.div_add_mod b cs.length).symm
  have hne : a % cs.length ≠ b % cs.length := by
    intro h
    refine hd ⟨(a / cs.length : Nat) - (b / cs.length : Nat), ?_⟩
    rw [Int.mul_sub]
    have e1 : (a : Int) = (cs.length : Int) * (a / cs.length : Nat) + (a % cs.length : Nat) := by
      have := (Nat.div_add_mod a cs.length).symm
      exact_mod_cast this
    have e2 : (b : Int) = (cs.length : Int) * (b / cs.length : Nat) + (b % cs.length : Nat) := by
      have := (Nat.div_add_mod b cs.length).symm
      exact_mod_cast this
    omega
  rw [ha, hb] at e
  rcases Nat.le_total (a / cs.length) (b / cs.length) with c | c
  · exact main _ _ _ _ (Nat.mod_lt _ hN) (Nat.mod_lt _ hN) hne c e
  · exact main _ _ _ _ (Nat.mod_lt _ hN) (Nat.mod_lt _ hN) (Ne.symm hne) c e.symm
/-- what the program looks at -/
theorem pb_iff (B : BF n) (hx : cs ≠ []) (O : Ord n (sq n cs cs.length) m) : PB n cs ↔ (FHm n cs (idL n) ∨ ∃ i j, i < j ∧ j < m ∧ FHm n cs (comp (invL n (powL n (sq n cs cs.length) i)) (powL n (sq n cs cs.length) j))) := by
  have hT : Row n (sq n cs cs.length) := sq_row B _
  have inv0 : invL n (idL n) = idL n := by
    obtain ⟨i1, i2, i3⟩ := inv_all B B.idrow
    have h := comp_idl i1
    rw [i2] at h
    exact h.symm
  constructor
  · intro h
    obtain ⟨k, hk, hf⟩ := pb_to B hx O h
    rcases Nat.eq_zero_or_pos k with rfl | hk0
    · exact .inl hf
    · refine .inr ⟨0, k, hk0, hk, ?_⟩
      show FHm n cs (comp (invL n (idL n)) _)
      rw [inv0, comp_idl (pow_row B hT k)]
      exact hf
  · rintro (h | ⟨i, j, hij, _, h⟩)
    · exact pb_of (k := 0) B h
    · obtain ⟨i1, i2, i3⟩ := inv_all B (pow_row B hT i)
      refine pb_of (k := j - i) B ?_
      rw [show j = i + (j - i) by omega, pow_add B hT, ← comp_assoc (pow_row B hT i) (pow_row B hT _), i3, comp_idl (pow_row B hT _)] at h
      exact h
/-! ### over a whole period -/
theorem rot_perm {α : Type} (f : Nat → α) (M : Nat) (hf : ∀ i, f (i + M) = f i) : ∀ p, ((List.range M).map fun i => f (p + i)).Perm ((List.range M).map f)
  | 0 => by rw [show (fun i => f (0 + i)) = f from funext fun i => by rw [Nat.zero_add]]
  | p + 1 => by
    refine List.Perm.trans ?_ (rot_perm f M hf p)
    cases M with
    | zero => exact List.Perm.refl _
    | succ M =>
      have l1 : (List.range (M + 1)).map (fun i => f (p + 1 + i)) = (List.range M).map (fun i => f (p + 1 + i)) ++ [f (p + 1 + M)] := by rw [List.range_succ, List.map_append, List.map_singleton]
      have l2 : (List.range (M + 1)).map (fun i => f (p + i)) = f (p + 0) :: (List.range M).map ((fun i => f (p + i)) ∘ Nat.succ) := by rw [List.range_succ_eq_map, List.map_cons, List.map_map]
      rw [l1, l2]
      have e1 : f (p + 1 + M) = f (p + 0) := by rw [show p + 1 + M = p + 0 + (M + 1) by omega, hf]
      have e2 : ((List.range M).map fun i => f (p + 1 + i)) = (List.range M).map ((fun i => f (p + i)) ∘ Nat.succ) := List.map_congr_left fun i _ => by
        show f (p + 1 + i) = f (p + (i + 1))
        rw [show p + 1 + i = p + (i + 1) by omega]
      rw [e1, e2]
      exact List.perm_append_singleton _ _
theorem range_mul (f : Nat → List Int) (N : Nat) : ∀ m, ((List.range m).flatMap fun k => (List.range N).map fun i => f (k * N + i)) = (List.range (m * N)).map f
  | 0 => by rw [Nat.zero_mul]; rfl
  | m + 1 => by
    rw [List.range_succ, List.flatMap_append, range_mul f N m, Nat.succ_mul, List.range_add, List.map_append, List.map_map]
    simp [Function.comp_def]
theorem sq_per (B : BF n) (O : Ord n (sq n cs cs.length) m) (i : Nat) : sq n cs (i + m * cs.length) = sq n cs i := by
  rw [Nat.add_comm, sq_mul B, O.back, comp_idl (sq_row B i)]
end
end My

set_option Elab.async false
set_option linter.all false
set_option maxRecDepth 100000
set_option maxHeartbeats 1000000
namespace My
open PySem PySem.Spec PyProof.Rows L2 Dn
/-! ## courses -/

theorem pi3 : (permsF 3 3 []).map (fun r => f_inverse_of [tiD r]) = (permsF 3 3 []).map fun r => T.ret (tiD (invL 3 r)) := by kernel_rfl
theorem pi4 : (permsF 4 4 []).map (fun r => f_inverse_of [tiD r]) = (permsF 4 4 []).map fun r => T.ret (tiD (invL 4 r)) := by kernel_rfl
theorem pi5 : (permsF 5 5 []).map (fun r => f_inverse_of [tiD r]) = (permsF 5 5 []).map fun r => T.ret (tiD (invL 5 r)) := by kernel_rfl
theorem pi6 : (permsF 6 6 []).map (fun r => f_inverse_of [tiD r]) = (permsF 6 6 []).map fun r => T.ret (tiD (invL 6 r)) := by kernel_rfl
theorem cutL_init {α : Type} (xs : List α) : cutL xs none (some (-1)) = xs.dropLast := by
  cases xs with
  | nil => rfl
  | cons x xs =>
    unfold cutL
    rw [sIx_none, show (some (-1 : Int)) = some (-(((0 : Nat) : Int) + 1)) from rfl, sIx_neg _ _ 0 (by simp), List.drop_zero, List.dropLast_eq_take]
    rfl
theorem newL_row (rs : List (List Int)) : newL (rs.map tiD) = rowD .own rs := by
  unfold newL
  rw [flat_ti]; rfl
theorem cutR_drop (f : Fl) (hs : List (List Int)) : D.cut (rowD f hs) none (some (-1)) = .ret (rowD .own hs.dropLast) := by
  show T.ret (newL (cutL (hs.map tiD) none (some (-1)))) = _
  rw [cutL_init, ← List.map_dropLast, newL_row]
theorem toArg_row (f : Fl) (rs : List (List Int)) : ∃ g, g ≠ .bor ∧ g ≠ .own ∧ toArg (rowD f rs) = rowD g rs := by
  cases f
  · exact ⟨.arg, by decide, by decide, rfl⟩
  · exact ⟨.frz, by decide, by decide, rfl⟩
  · exact ⟨.arg, by decide, by decide, rfl⟩
  · exact ⟨.arg, by decide, by decide, rfl⟩
theorem ext_eq {i : Nat} {e : Dn.Env → T D} {env : Dn.Env} {xs ys : List D} (h : env[i]? = some (some (.lst .own xs))) (he : e env = .ret (.lst .own ys)) (hl : xs.length + ys.length ≤ 1000000) : extendS i e env = .ret (.nx (env.set i (some (.lst .own (xs ++ ys))))) := by
  have ho : ownAt env i = some xs := by unfold ownAt; rw [h]
  unfold extendS
  rw [ho]
  exact T.bind_eq rfl (T.bind_eq he (if_pos ⟨.inl rfl, hl⟩))
section
variable {n m : Nat} {cs ks : List (List Int)} {r s t c l : List Int}
theorem pinv (B : BF n) (h : Row n r) : f_inverse_of [tiD r] = .ret (tiD (invL n r)) := by
  have hm := perm_in h
  rcases four B with rfl | rfl | rfl | rfl
  · exact map_mem pi3 r hm
  · exact map_mem pi4 r hm
  · exact map_mem pi5 r hm
  · exact map_mem pi6 r hm
theorem inv_row (B : BF n) (h : Row n r) : Row n (invL n r) := (inv_all B h).1
theorem w_ne (w : MethW n cs ks l) : cs ≠ [] := by intro e; have := w.last; rw [e] at this; cases this
def headsL (n m : Nat) (t : List Int) : List (List Int) := (List.range m).map (powL n t)
theorem headsL_len : (headsL n m t).length = m := by unfold headsL; rw [List.length_map, List.length_range]
theorem headsL_row (B : BF n) (h : Row n t) : ∀ r ∈ headsL n m t, Row n r := fun r hr => by
  obtain ⟨i, _, rfl⟩ := List.mem_map.mp hr
  exact pow_row B h i
def callsD (f : Fl) (k m : Nat) : D := .lst f (List.replicate m (.int (k : Nat)))
theorem rep_flat (k m : Nat) : (List.replicate m (D.int (k : Nat))).all flatD = true := by
  rw [List.all_eq_true]
  intro d hd
  rw [(List.mem_replicate.mp hd).2]; rfl
theorem course_of (B : BF n) (w : MethW n cs ks l) {k : Nat} (hc : (l :: ks)[k]? = some c) (O : Ord n (turnL n cs c) m) : f_course_of [methD n cs ks, .int (k : Nat)] = .ret (callsD .own k m) := by
  have hf := w.few
  have hf2 := w.few2
  have h6 := O.six
  have f1 := turns_of B w.cs w.ks (by omega) (by omega) w.last
  refine runF_rt (retS_eq (bin2_eq (x := .lst .own [.int (k : Nat)]) (y := .int (m : Nat)) (callN_eq (argsN_eq (var_int rfl) args0_eq) rfl) (callN_eq (argsN_eq (bin2_eq (callN_eq (argsN_eq (var_M rfl) args0_eq) (cF f1 rfl)) (var_int rfl) (ixXTs (by rw [List.getElem?_map, hc]; rfl))) args0_eq) (cF (order_eq B (turn_row B) O) rfl)) ?_) ?_)
  · show (if -1000000 ≤ ((m : Nat) : Int) ∧ ((m : Nat) : Int) ≤ 1000000 ∧ 1 * ((m : Nat) : Int).toNat ≤ 1000000 then T.ret (newL (List.replicate ((m : Nat) : Int).toNat [D.int (k : Nat)]).flatten) else .fail) = _
    rw [if_pos (by omega)]
    have e : (List.replicate ((m : Nat) : Int).toNat [D.int (k : Nat)]).flatten = List.replicate m (.int (k : Nat)) := by
      rw [Int.toNat_natCast]
      clear O h6
      induction m with
      | zero => rfl
      | succ m ih => rw [List.replicate_succ, List.flatten_cons, ih]; rfl
    rw [e]
    unfold newL
    rw [rep_flat]; rfl
  · unfold callsD
    rw [clean_lst]
    have : cleanL (List.replicate m (D.int (k : Nat))) = true := by
      clear O h6
      induction m with
      | zero => exact cleanL_nil
      | succ m ih => rw [List.replicate_succ, cleanL_cons, ih, sc_int]; rfl
    rw [this]; rfl
theorem heads_loop (B : BF n) (h : Row n t) {a0 a1 : Option D} {ts : List (List Int)} {k : Nat} (hk : ts[k]? = some t) : ∀ (q j : Nat) (o4 : Option D), q + j ≤ 10000 → ∃ p4, loopS (tgN 4) (appendS 3 (callN (callF 2 f_times) (argsN (bin2 D.ix (var 3) (un1 D.neg (con (.int 1)))) (argsN (bin2 D.ix (var 2) (var 4)) args0)))) (List.replicate q (.int (k : Nat))) [a0, a1, some (tsD ts), some (rowD .own (headsL n (j + 1) t)), o4] = .ret (.nx [a0, a1, some (tsD ts), some (rowD .own (headsL n (j + 1 + q) t)), p4])
  | 0, j, o4, _ => ⟨o4, rfl⟩
  | q + 1, j, o4, hq => by
    obtain ⟨p4, e⟩ := heads_loop B h (a0 := a0) (a1 := a1) hk q (j + 1) (some (.int (k : Nat))) (by omega)
    rw [show j + 1 + 1 + q = j + 1 + (q + 1) by omega] at e
    refine ⟨p4, ?_⟩
    rw [List.replicate_succ]
    refine loop_nx (e1 := [a0, a1, some (tsD ts), some (rowD .own (headsL n (j + 1) t)), some (.int (k : Nat))]) (e2 := [a0, a1, some (tsD ts), some (rowD .own (headsL n (j + 1 + 1) t)), some (.int (k : Nat))]) rfl ?_ e
    have hlast : (headsL n (j + 1) t).getLast? = some (powL n t j) := by
      unfold headsL
      rw [List.range_succ, List.map_append, List.map_singleton, List.getLast?_concat]
    have hnew : headsL n (j + 1 + 1) t = headsL n (j + 1) t ++ [powL n t (j + 1)] := by
      unfold headsL
      rw [List.range_succ, List.map_append, List.map_singleton]
    refine (app_eq (d := tiD (powL n t (j + 1))) (xs := (headsL n (j + 1) t).map tiD) rfl ?_ rfl (by rw [List.length_map, headsL_len]; omega)).trans ?_
    · exact callN_eq (argsN_eq (bin2_eq (var_own rfl) rfl (ixXR_last hlast)) (argsN_eq (bin2_eq (var_tup rfl) (var_int rfl) (ixXTs hk)) args0_eq)) (cF (times_row (pow_row B h j) h B.hi) rfl)
    · rw [hnew]
      unfold rowD
      rw [List.map_append (l₂ := [powL n t (j + 1)])]
      rfl
theorem heads_of (B : BF n) (w : MethW n cs ks l) {k : Nat} (hc : (l :: ks)[k]? = some c) (hm : m ≤ 1000) (f : Fl) : f_heads_of [methD n cs ks, callsD f k m] = .ret (rowD .own (headsL n (m + 1) (turnL n cs c))) := by
  have hf := w.few
  have hf2 := w.few2
  have f1 := turns_of B w.cs w.ks (by omega) (by omega) w.last
  have ha : ∃ g : Fl, g ≠ .bor ∧ g ≠ .own ∧ toArg (callsD f k m) = callsD g k m := by
    cases f
    · exact ⟨.arg, by decide, by decide, rfl⟩
    · exact ⟨.frz, by decide, by decide, rfl⟩
    · exact ⟨.arg, by decide, by decide, rfl⟩
    · exact ⟨.arg, by decide, by decide, rfl⟩
  obtain ⟨g, hg, hg2, eg⟩ := ha
  obtain ⟨p4, e⟩ := heads_loop B (turn_row B (cs := cs) (c := c)) (a0 := some (methD n cs ks)) (a1 := some (callsD g k m)) (ts := (l :: ks).map fun c => doneL 0 (endL (idL n) cs.dropLast) c) (k := k) (by rw [List.getElem?_map, hc]; rfl) m 0 none (by omega)
  rw [show 0 + 1 + m = m + 1 by omega] at e
  refine runF_rt ?_
  show s_heads_of [some (methD n cs ks), some (toArg (callsD f k m)), none, none, none] = _
  rw [eg]
  refine seqS_nx (e := [some (methD n cs ks), some (callsD g k m), some (tsD ((l :: ks).map fun c => doneL 0 (endL (idL n) cs.dropLast) c)), some (rowD .own (headsL n (0 + 1) (turnL n cs c))), none]) (T.bind_eq (argsN_eq (callN_eq (argsN_eq (var_M rfl) args0_eq) (cF f1 rfl)) (argsN_eq (x := rowD .own [idL n]) (callN_eq (argsN_eq (x := tiD (idL n)) (callN_eq (argsN_eq (bin2_eq (var_M rfl) con_eq mix1) args0_eq) (cF (rounds_eq B) rfl)) args0_eq) rfl) args0_eq)) rfl) (seqS_nx (for_eq (ds := List.replicate m (.int (k : Nat))) ?_ e) ?_)
  · refine T.bind_eq (a := callsD g k m) ?_ ?_
    · cases g <;> first | rfl | exact absurd rfl hg | exact absurd rfl hg2
    · have hd : ∀ f0, (List.replicate m (D.int (k : Nat))).map (deg f0) = List.replicate m (.int (k : Nat)) := fun f0 => by rw [List.map_replicate]; rfl
      cases g
      · show T.ret ((List.replicate m (D.int (k : Nat))).map (deg .frz)) = _; rw [hd]
      · show T.ret ((List.replicate m (D.int (k : Nat))).map (deg .frz)) = _; rw [hd]
      · show T.ret ((List.replicate m (D.int (k : Nat))).map (deg .arg)) = _; rw [hd]
      · exact absurd rfl hg
  · exact (retV_some rfl).trans (if_pos (clean_rowD rfl _))
theorem headsL_drop : (headsL n (m + 1) t).dropLast = headsL n m t := by
  unfold headsL
  rw [List.range_succ, List.map_append, List.map_singleton, List.dropLast_concat]
theorem heads_told (B : BF n) (w : MethW n cs ks l) {k : Nat} (hc : (l :: ks)[k]? = some c) (O : Ord n (turnL n cs c) m) : f_heads_told [methD n cs ks, .int (k : Nat)] = .ret (rowD .own (headsL n m (turnL n cs c))) := by
  have h6 := O.six
  refine runF_rt (retS_eq (cut_eq (callN_eq (argsN_eq (var_M rfl) (argsN_eq (callN_eq (argsN_eq (var_M rfl) (argsN_eq (var_int rfl) args0_eq)) (cF (course_of B w hc O) rfl)) args0_eq)) (cF (heads_of B w hc (by omega) .own) rfl)) noP_eq (part_eq (i := -1) rfl) ((cutR_drop _ _).trans (by rw [headsL_drop]))) (clean_rowD rfl _))
def crowsL (n m : Nat) (t : List Int) (ls : List (List Int)) : List (List Int) := (headsL n m t).flatMap fun h => ls.map (comp h)
theorem crows_sq (B : BF n) (hx : cs ≠ []) : crowsL n m (sq n cs cs.length) (pathL (idL n) cs.dropLast) = (List.range (m * cs.length)).map (sq n cs) := by
  rw [lead_sq hx, ← range_mul]
  unfold crowsL headsL
  rw [List.flatMap_map]
  refine congrArg (fun f => List.flatMap f (List.range m)) (funext fun k => ?_)
  rw [List.map_map]
  exact List.map_congr_left fun i _ => (sq_mul B k i).symm
abbrev crsB : SD := ifS (orT (testE (bin2 D.eq (var 4) (callN lstD args0))) (testE (bin2 D.ne (var 5) (var 2)))) (seqS (asgT (callN (callF 3 f__law_lead) (argsN (var 0) (argsN (var 5) (argsN (var 1) args0)))) (tgT 2 (tgCons (tgN 7) (tgCons (tgN 8) tgNil)))) (parS [3, 4, 5] (argsN (bin2 D.add (var 3) (var 7)) (argsN (bin2 D.add (var 4) (callN lstD (argsN (var 5) args0))) (argsN (var 8) args0))))) skipS
theorem heads_succ (j : Nat) : headsL n (j + 1) t = headsL n j t ++ [powL n t j] := by
  unfold headsL
  rw [List.range_succ, List.map_append, List.map_singleton]
theorem crows_succ (j : Nat) (ls : List (List Int)) : crowsL n (j + 1) t ls = crowsL n j t ls ++ ls.map (comp (powL n t j)) := by
  unfold crowsL
  rw [heads_succ, List.flatMap_append, List.flatMap_singleton]
theorem crows_len (ls : List (List Int)) : (crowsL n m t ls).length = m * ls.length := by
  induction m with
  | zero => rw [Nat.zero_mul]; rfl
  | succ m ih => rw [crows_succ, List.length_append, List.length_map, ih, Nat.succ_mul]
theorem path_comp (hr : Row n r) (ds : List (List Int)) : pathL r ds = (pathL (idL n) ds).map (comp r) := by rw [comp_path, comp_id hr]
theorem course_loop (B : BF n) (w : MethW n cs ks l) {k : Nat} (hc : (l :: ks)[k]? = some c) (O : Ord n (turnL n cs c) m) : ∀ (ds : List D) (j : Nat) (o6 o7 o8 : Option D), j ≤ m → m ≤ j + ds.length →
    ∃ p6 p7 p8, loopS (tgN 6) crsB ds [some (methD n cs ks), some (.int (k : Nat)), some (tiD (idL n)), some (rowD .own (crowsL n j (turnL n cs c) (pathL (idL n) cs.dropLast))), some (rowD .own (headsL n j (turnL n cs c))), some (tiD (powL n (turnL n cs c) j)), o6, o7, o8] = .ret (.nx [some (methD n cs ks), some (.int (k : Nat)), some (tiD (idL n)), some (rowD .own (crowsL n m (turnL n cs c) (pathL (idL n) cs.dropLast))), some (rowD .own (headsL n m (turnL n cs c))), some (tiD (idL n)), p6, p7, p8])
  | [], j, o6, o7, o8, h1, h2 => by
    have e : j = m := by simpa using Nat.le_antisymm h1 h2
    subst e
    rw [O.back]
    exact ⟨o6, o7, o8, rfl⟩
  | d :: ds, j, o6, o7, o8, h1, h2 => by
    have hp := O.pos
    have hs6 := O.six
    have hhl : (headsL n j (turnL n cs c)).length = j := headsL_len
    rw [List.length_cons] at h2
    by_cases hj : j < m
    · have hr := pow_row B (turn_row B (cs := cs) (c := c)) j
      have hlead := law_lead B w hr hc
      have hw := w.few
      have hpl : (pathL (idL n) cs.dropLast).length ≤ 40 := by
        have : 0 < cs.length := List.length_pos_iff.mpr (w_ne w)
        rw [pathL_len, List.length_dropLast]; omega
      have hpl2 : (pathL (powL n (turnL n cs c) j) cs.dropLast).length ≤ 40 := by rw [pathL_len]; rw [pathL_len] at hpl; exact hpl
      have hcl := crows_len (n := n) (m := j) (t := turnL n cs c) (pathL (idL n) cs.dropLast)
      have hcl2 : j * (pathL (idL n) cs.dropLast).length ≤ 6 * 40 := Nat.mul_le_mul (by omega) hpl
      obtain ⟨p6, p7, p8, q2⟩ := course_loop B w hc O ds (j + 1) (some d) (some (rowD .frz (pathL (powL n (turnL n cs c) j) cs.dropLast))) (some (tiD (powL n (turnL n cs c) (j + 1)))) (by omega) (by omega)
      rw [crows_succ, heads_succ, ← path_comp hr] at q2
      refine ⟨p6, p7, p8, loop_nx (e1 := [some (methD n cs ks), some (.int (k : Nat)), some (tiD (idL n)), some (rowD .own (crowsL n j (turnL n cs c) (pathL (idL n) cs.dropLast))), some (rowD .own (headsL n j (turnL n cs c))), some (tiD (powL n (turnL n cs c) j)), some d, o7, o8]) rfl ?_ q2⟩
      refine if_t ?_ (seqS_nx (e := [some (methD n cs ks), some (.int (k : Nat)), some (tiD (idL n)), some (rowD .own (crowsL n j (turnL n cs c) (pathL (idL n) cs.dropLast))), some (rowD .own (headsL n j (turnL n cs c))), some (tiD (powL n (turnL n cs c) j)), some d, some (rowD .frz (pathL (powL n (turnL n cs c) j) cs.dropLast)), some (tiD (powL n (turnL n cs c) (j + 1)))]) (asg_eq (callN_eq (argsN_eq (var_M rfl) (argsN_eq (var_ti rfl) (argsN_eq (var_int rfl) args0_eq))) (cF hlead rfl)) ?_) (T.bind_eq (argsN_eq (bin2_eq (var_own rfl) (var_frz rfl) (add_rows _ _ _ _ (by rw [hcl]; omega))) (argsN_eq (bin2_eq (y := rowD .own [powL n (turnL n cs c) j]) (var_own rfl) (callN_eq (argsN_eq (var_ti rfl) args0_eq) rfl) (add_rows _ _ _ _ (by rw [List.length_singleton, hhl]; omega))) (argsN_eq (x := tiD (powL n (turnL n cs c) (j + 1))) (var_ti rfl) args0_eq))) rfl))
      · have e1 : testE (bin2 D.eq (var 4) (callN lstD args0)) [some (methD n cs ks), some (.int (k : Nat)), some (tiD (idL n)), some (rowD .own (crowsL n j (turnL n cs c) (pathL (idL n) cs.dropLast))), some (rowD .own (headsL n j (turnL n cs c))), some (tiD (powL n (turnL n cs c) j)), some d, o7, o8] = .ret (decide (headsL n j (turnL n cs c) = [])) := te (bin2_eq (y := rowD .own []) (var_own rfl) rfl (eq_rowD _ _ _ _))
        by_cases h0 : headsL n j (turnL n cs c) = []
        · rw [decide_eq_true h0] at e1
          exact or_t e1
        · rw [decide_eq_false h0] at e1
          have j1 : 1 ≤ j := by
            rw [← hhl]
            exact List.length_pos_iff.mpr h0
          exact or_f e1 (te ((bin2_eq (var_ti (r := powL n (turnL n cs c) j) rfl) (var_ti (r := idL n) rfl) (ne_ti _ _)).trans (by rw [decide_eq_false (O.first j j1 hj)]; rfl)))
      · rw [turn_comp hr]; rfl
    · have e : j = m := by omega
      have h0 : headsL n j (turnL n cs c) ≠ [] := by
        intro e2
        rw [e2, List.length_nil] at hhl
        omega
      have eb : powL n (turnL n cs c) j = idL n := by rw [e]; exact O.back
      obtain ⟨p6, p7, p8, q2⟩ := course_loop B w hc O ds j (some d) o7 o8 h1 (by omega)
      refine ⟨p6, p7, p8, loop_nx (e1 := [some (methD n cs ks), some (.int (k : Nat)), some (tiD (idL n)), some (rowD .own (crowsL n j (turnL n cs c) (pathL (idL n) cs.dropLast))), some (rowD .own (headsL n j (turnL n cs c))), some (tiD (powL n (turnL n cs c) j)), some d, o7, o8]) rfl (if_f (or_f (te ((bin2_eq (y := rowD .own []) (var_own rfl) rfl (eq_rowD _ _ _ _)).trans (by rw [decide_eq_false h0]))) ?_) skip_eq) q2⟩
      exact te ((bin2_eq (var_ti (r := powL n (turnL n cs c) j) rfl) (var_ti (r := idL n) rfl) (ne_ti _ _)).trans (by rw [decide_eq_true eb]; rfl))
theorem law_course (B : BF n) (w : MethW n cs ks l) {k : Nat} (hc : (l :: ks)[k]? = some c) (O : Ord n (turnL n cs c) m) : f__law_course [methD n cs ks, .int (k : Nat)] = .ret (.tup [rowD .frz (crowsL n m (turnL n cs c) (pathL (idL n) cs.dropLast)), rowD .frz (headsL n m (turnL n cs c))]) := by
  have hs6 := O.six
  obtain ⟨p6, p7, p8, q2⟩ := course_loop B w hc O (rgD 0 720) 0 none none none (Nat.zero_le _) (by rw [rgD_len]; omega)
  refine runF_rt (seqS_nx (setS_eq (d := tiD (idL n)) (un1_eq (bin2_eq (var_M rfl) con_eq mix1) B.idr) rfl) (seqS_nx (e := [some (methD n cs ks), some (.int (k : Nat)), some (tiD (idL n)), some (rowD .own []), some (rowD .own []), some (tiD (idL n)), none, none, none]) (T.bind_eq (argsN_eq (x := rowD .own []) rfl (argsN_eq (x := rowD .own []) rfl (argsN_eq (x := tiD (idL n)) (var_ti rfl) args0_eq))) rfl) (seqS_nx (for_eq (rg_eq con_eq (by decide)) q2) (seqS_nx rfl (seqS_nx rfl (retS_eq (callN_eq (argsN_eq (x := rowD .frz (crowsL n m (turnL n cs c) (pathL (idL n) cs.dropLast))) rfl (argsN_eq (x := rowD .frz (headsL n m (turnL n cs c))) rfl args0_eq)) rfl) ?_))))))
  rw [clean_tup, cleanL_cons, cleanL_cons, cleanL_nil, clean_rowD rfl, clean_rowD rfl]; rfl
end
end My

set_option Elab.async false
set_option linter.all false
set_option maxRecDepth 100000
set_option maxHeartbeats 1000000
namespace My
open PySem PySem.Spec PyProof.Rows L2 Dn
/-! ## k24: where bells stand -/

theorem reprX_ok {x : D} (hs : isSeqD x = true) (h : reprOk x = true) : D.reprX x = .ret (.str (reprS x)) := by
  cases x <;> first | exact repr_ok hs h | cases hs
theorem reprNe {a b : Dn.Env → T D} {env : Dn.Env} {x y : D} (ha : a env = .ret x) (hb : b env = .ret y) (hs : isSeqD x = true) (ht : isSeqD y = true) (h1 : reprOk x = true) (h2 : reprOk y = true) (e : toP x = toP y) :
    testE (bin2 D.ne (callN (one D.reprX) (argsN a args0)) (callN (one D.reprX) (argsN b args0))) env = .ret false :=
  te (bin2_eq (callN_eq (argsN_eq ha args0_eq) (one_eq (reprX_ok hs h1))) (callN_eq (argsN_eq hb args0_eq) (one_eq (reprX_ok ht h2))) (ne_repr h1 h2 e))
abbrev Fi (d : D) : Prop := fitD 63 d = true ∧ costD d ≤ 100000
theorem fi_list : ∀ {xs : List D}, (∀ d ∈ xs, Fi d) → fitL 63 xs = true ∧ costL xs ≤ 100001 * xs.length
  | [], _ => ⟨by rw [fitL], by rw [costL]; omega⟩
  | d :: xs, h => by
    obtain ⟨a, b⟩ := fi_list fun x hx => h x (List.mem_cons_of_mem _ hx)
    obtain ⟨c, e⟩ := h d List.mem_cons_self
    refine ⟨by rw [fitL, a, c]; rfl, ?_⟩
    rw [costL, List.length_cons]; omega
theorem fi_ok {f : Fl} {xs : List D} (h : ∀ d ∈ xs, Fi d) (hl : xs.length ≤ 8) : reprOk (.lst f xs) = true := by
  obtain ⟨a, b⟩ := fi_list h
  unfold reprOk
  rw [fitD, costD, a, decide_eq_true (by omega)]; rfl
theorem fi_ti {n : Nat} {r : List Int} (hn : n ≤ 8) (h : Row n r) : Fi (tiD r) := ⟨fit_ti (n := 62) (h.small hn), Nat.le_trans (cost_ti (h.small hn)) (by decide)⟩
theorem fi_sm {r : List Int} (h : Small r) : Fi (tiD r) := ⟨fit_ti (n := 62) h, Nat.le_trans (cost_ti h) (by decide)⟩
theorem fi_bl (b : Bool) : Fi (.bl b) := ⟨by rw [fitD], by rw [costD]; omega⟩
theorem fi_int {i : Int} (h : 0 ≤ i ∧ i < 1000) : Fi (.int i) := ⟨by rw [fitD]; exact decide_eq_true ⟨by omega, by omega⟩, by rw [costD]; omega⟩
theorem toP_lst {f g : Fl} {xs ys : List D} (h : toPL xs = toPL ys) : toP (.lst f xs) = toP (.lst g ys) := by rw [toP, toP, h]
theorem toPL_cons {x y : D} {xs ys : List D} (h : toP x = toP y) (h2 : toPL xs = toPL ys) : toPL (x :: xs) = toPL (y :: ys) := by rw [toPL, toPL, h, h2]
theorem compFI {v : Nat} {cond : Dn.Env → T Bool} {elt : Dn.Env → T D} {en : Dn.Env} {α : Type} (q : α → Bool) (g : α → D) (h : α → D) : ∀ {I : List α}, (∀ i ∈ I, cond (en.set v (some (g i))) = .ret (q i) ∧ elt (en.set v (some (g i))) = .ret (h i) ∧ topBor (h i) = false) → compL (tgN v) cond elt en (I.map g) = .ret ((I.filter q).map h)
  | [], _ => rfl
  | i :: I, hh => by
    have ih := compFI (I := I) q g h fun x hx => hh x (List.mem_cons_of_mem _ hx)
    obtain ⟨h1, h2, h3⟩ := hh i List.mem_cons_self
    rw [List.map_cons]
    unfold compL
    refine T.bind_eq rfl (T.bind_eq h1 ?_)
    cases hp : q i with
    | true =>
      rw [if_pos rfl, List.filter_cons_of_pos hp]
      refine T.bind_eq h2 ?_
      show (if topBor (h i) = true then _ else _) = _
      rw [h3, if_neg Bool.false_ne_true]
      exact T.bind_eq ih rfl
    | false =>
      rw [if_neg Bool.noConfusion, List.filter_cons_of_neg (by rw [hp]; exact Bool.noConfusion)]
      exact ih
theorem compFE {src : Dn.Env → T (List D)} {v : Nat} {cond : Dn.Env → T Bool} {elt : Dn.Env → T D} {env : Dn.Env} {α : Type} (q : α → Bool) (g h : α → D) {I : List α} (hs : src env = .ret (I.map g)) (hl : I.length ≤ 1000000) (hh : ∀ i ∈ I, cond ((wipeE env [v]).set v (some (g i))) = .ret (q i) ∧ elt ((wipeE env [v]).set v (some (g i))) = .ret (h i) ∧ topBor (h i) = false) :
    compE src (tgN v) cond elt [v] env = .ret (.lst .own ((I.filter q).map h)) := by
  refine T.bind_eq hs ?_
  rw [if_pos (by rw [List.length_map]; exact hl)]
  exact T.bind_eq (compFI q g h hh) rfl
theorem loop_rt {tg : D → Dn.Env → T Dn.Env} {body : SD} {d x : D} {ds : List D} {env e1 : Dn.Env} (h1 : tg d env = .ret e1) (h2 : body e1 = .ret (.rt x)) : loopS tg body (d :: ds) env = .ret (.rt x) := T.bind_eq h1 (T.bind_eq h2 rfl)
section
variable {n m : Nat} {cs ks : List (List Int)} {r s t c l hd : List Int} {mo : Int}
theorem rg_nat (n : Nat) : rgD 0 (n : Nat) = (List.range n).map fun i => D.int (i : Nat) := by
  unfold rgD
  rw [show ((n : Int) - 0).toNat = n by omega]
  exact List.map_congr_left fun i _ => by rw [Int.zero_add]
theorem ti_of (I : List Nat) : (I.map fun i => D.int (i : Nat)) = (I.map fun i : Nat => (i : Int)).map D.int := by rw [List.map_map]; rfl
theorem eq_of_ne {a b : D} (h : D.ne a b = .ret (.bl false)) : D.eq a b = .ret (.bl true) := by
  unfold D.ne at h
  unfold D.eq
  split at h
  · rename_i c
    rw [if_pos c]
    cases e : D.eqv a b with
    | true => rfl
    | false => rw [e] at h; cases h
  · cases h
theorem fi_M (B : BF n) (w : MethW n cs ks l) : reprOk (methD n cs ks) = true := by
  have hn := B.hi
  have h2 := w.few
  have h3 := w.few2
  have s1 : ∀ c ∈ cs, Small c := fun c h => B.sm c (w.cs c h)
  have s2 : ∀ c ∈ ks, Small c := fun c h => B.sm c (w.ks c h)
  have c1 := cost_tis cs s1
  have c2 := cost_tis ks s2
  have f1 : fitL 62 (cs.map tiD) = true := fit_tis 61 cs s1
  have f2 : fitL 62 (ks.map tiD) = true := fit_tis 61 ks s2
  unfold reprOk methD tsD
  rw [fitD, fitL, fitL, fitL, fitL, fitL, fitD, fitD, fitD, fitD, f1, f2, costD, costL, costL, costL, costL, costL, costD, costD, costD, costD]
  have e : ("method" : Str).cps.size = 6 := by decide +kernel
  have e2 : PyData.strOk ("method" : Str) = true := by decide +kernel
  rw [e, e2, decide_eq_true (by omega), decide_eq_true (by omega)]; rfl
end
def intL (f : Fl) (I : List Nat) : D := .lst f (I.map fun i : Nat => D.int i)
theorem clean_intL {f : Fl} (h : f.pure = true) (I : List Nat) : clean (intL f I) = true := by
  unfold intL
  rw [clean_lst, h, ti_of]
  have := clean_ti (I.map fun i : Nat => (i : Int))
  unfold tiD at this
  rw [clean_tup] at this
  rw [this]; rfl
theorem rg_src {e : Dn.Env → T D} {env : Dn.Env} {m : Nat} (h : e env = .ret (.int (m : Int))) (hm : m ≤ 1000) : srcR (rg1 e) env = .ret ((List.range m).map fun i : Nat => D.int i) := by
  rw [rg_eq h (by omega), rg_nat]
theorem fit_ints {I : List Nat} (h : ∀ i ∈ I, i < 1000) (k : Nat) : fitL k (I.map fun i : Nat => D.int i) = true ∧ costL (I.map fun i : Nat => D.int i) = 42 * I.length := by
  induction I with
  | nil => exact ⟨by rw [List.map_nil, fitL], by rw [List.map_nil, costL]; rfl⟩
  | cons i I ih =>
    obtain ⟨a, b⟩ := ih fun x hx => h x (List.mem_cons_of_mem _ hx)
    have := h i List.mem_cons_self
    refine ⟨by rw [List.map_cons, fitL, a, fitD, decide_eq_true (by omega)]; rfl, ?_⟩
    rw [List.map_cons, costL, b, costD, List.length_cons]; omega
theorem srcI {f : Fl} {e : Dn.Env → T D} {env : Dn.Env} {I : List Nat} {c : Bool} (hf : f ≠ .bor ∨ c = true) (h : e env = .ret (intL f I)) : srcE c e env = .ret (I.map fun i : Nat => D.int i) := by
  unfold intL at h
  rw [ti_of] at h ⊢
  refine T.bind_eq h ?_
  cases f
  · show T.ret (((I.map fun i : Nat => (i : Int)).map D.int).map (deg .frz)) = _; rw [degs_ints]
  · show T.ret (((I.map fun i : Nat => (i : Int)).map D.int).map (deg .frz)) = _; rw [degs_ints]
  · show T.ret (((I.map fun i : Nat => (i : Int)).map D.int).map (deg .arg)) = _; rw [List.map_map]; rfl
  · rcases hf with hf | rfl
    · exact absurd rfl hf
    · show (if _ then _ else _) = _; rw [if_pos (by rw [flat_ints]; rfl)]
theorem has_int (k : Nat) : ∀ I : List Nat, hasD (I.map fun i : Nat => D.int i) (.int (k : Nat)) = decide (k ∈ I)
  | [] => rfl
  | i :: I => by
    have ih := has_int k I
    unfold hasD at ih ⊢
    rw [List.map_cons, List.any_cons, ih, D.eqv, Bool.eq_iff_iff]
    simp only [Bool.or_eq_true, beq_iff_eq, decide_eq_true_eq, List.mem_cons, Int.natCast_inj]
    constructor
    · rintro (h | h)
      · exact .inl h.symm
      · exact .inr h
    · rintro (h | h)
      · exact .inl h.symm
      · exact .inr h
theorem in_intL (k : Nat) (f : Fl) (I : List Nat) : inList false (.int (k : Nat)) (intL f I) = .ret (.bl (decide (k ∈ I))) := by
  show (if dok 64 (.int (k : Nat)) ∧ dokL 63 (I.map fun i : Nat => D.int i) then _ else _) = _
  have e : dokL 63 (I.map fun i : Nat => D.int i) = true := by rw [ti_of]; exact dok_ints 63 _
  rw [if_pos ⟨by rw [dok], e⟩, has_int]
  cases decide (k ∈ I) <;> rfl
theorem rg_cons (k n : Nat) : rgD (k : Nat) ((k : Nat) + ((n + 1 : Nat) : Int)) = .int (k : Nat) :: rgD ((k + 1 : Nat) : Int) (((k + 1 : Nat) : Int) + (n : Nat)) := by
  unfold rgD
  rw [show ((k : Int) + ((n + 1 : Nat) : Int) - (k : Int)).toNat = n + 1 by omega, show (((k + 1 : Nat) : Int) + (n : Nat) - ((k + 1 : Nat) : Int)).toNat = n by omega, List.range_succ_eq_map, List.map_cons, List.map_map]
  congr 1
  refine List.map_congr_left fun i _ => ?_
  show D.int ((k : Int) + ((i + 1 : Nat) : Int)) = D.int (((k + 1 : Nat) : Int) + (i : Nat))
  congr 1; omega
theorem notin_intL (k : Nat) (f : Fl) (I : List Nat) : inList true (.int (k : Nat)) (intL f I) = .ret (.bl (!decide (k ∈ I))) := by
  show (if dok 64 (.int (k : Nat)) ∧ dokL 63 (I.map fun i : Nat => D.int i) then _ else _) = _
  have e : dokL 63 (I.map fun i : Nat => D.int i) = true := by rw [ti_of]; exact dok_ints 63 _
  rw [if_pos ⟨by rw [dok], e⟩, has_int]
  cases decide (k ∈ I) <;> rfl
def pos (r : List Int) (b : Nat) : Nat := r.idxOf (b : Int)
theorem first_ints (b : Int) : ∀ r : List Int, b ∈ r → firstD (r.map D.int) (.int b) = some (r.idxOf b)
  | [], h => nomatch h
  | x :: r, h => by
    unfold firstD
    rw [List.map_cons, List.findIdx?_cons, D.eqv, List.idxOf_cons]
    by_cases c : x = b
    · rw [c, beq_self_eq_true]; rfl
    · have ih := first_ints b r ((List.mem_cons.mp h).resolve_left fun e => c e.symm)
      unfold firstD at ih
      rw [beq_eq_false_iff_ne.mpr c, ih]; rfl
theorem idxD_ti {r : List Int} {k : Nat} (h : (k : Int) ∈ r) : idxD (.int (k : Nat)) (r.map D.int) = .ret (.int (pos r k : Nat)) := by
  unfold idxD
  rw [if_pos ⟨by rw [dok], dok_ints 63 r⟩, first_ints _ r h]; rfl
theorem idx_eq {a b : Dn.Env → T D} {env : Dn.Env} {r : List Int} {k : Nat} (ha : a env = .ret (tiD r)) (hb : b env = .ret (.int (k : Nat))) (hm : (k : Int) ∈ r) : idxE a b env = .ret (.int (pos r k : Nat)) :=
  T.bind_eq ha (T.bind_eq hb (idxD_ti hm))
theorem idx_nats {I : List Nat} {k : Nat} (h : k ∈ I) : idxD (.int (k : Nat)) (I.map fun i : Nat => D.int i) = .ret (.int (I.idxOf k : Nat)) := by
  have hm : (k : Int) ∈ I.map fun i : Nat => (i : Int) := List.mem_map.mpr ⟨k, h, rfl⟩
  rw [ti_of, idxD_ti hm]
  have e : pos (I.map fun i : Nat => (i : Int)) k = I.idxOf k := by
    unfold pos
    clear h hm
    induction I with
    | nil => rfl
    | cons i I ih =>
      rw [List.map_cons, List.idxOf_cons, List.idxOf_cons, ih]
      by_cases c : i = k
      · rw [c, beq_self_eq_true, beq_self_eq_true]
      · rw [beq_eq_false_iff_ne.mpr c, beq_eq_false_iff_ne.mpr (by omega)]
  rw [e]
section
variable {n m p : Nat} {cs ks : List (List Int)} {r s t c l h q : List Int} {a b k : Nat}
theorem mem_row (B : BF n) (hr : Row n r) (hk : k < n) : (k : Int) ∈ r := by
  obtain ⟨i1, i2, i3⟩ := inv_all B hr
  have hin : (k : Int) ∈ idL n := List.mem_map.mpr ⟨k, List.mem_range.mpr hk, rfl⟩
  rw [← i2] at hin
  obtain ⟨i, hi, e⟩ := List.mem_map.mp hin
  have hb := i1.rng i hi
  obtain ⟨j, rfl⟩ := Int.eq_ofNat_of_zero_le hb.1
  have hj : j < r.length := by rw [hr.len]; omega
  rw [Int.toNat_natCast, List.getD_eq_getElem?_getD, List.getElem?_eq_getElem hj] at e
  rw [← e]
  exact List.getElem_mem hj
theorem pos_lt (B : BF n) (hr : Row n r) (hk : k < n) : pos r k < n := by
  have := List.idxOf_lt_length_of_mem (mem_row B hr hk)
  rw [hr.len] at this
  exact this
theorem at_pos (B : BF n) (hr : Row n r) (hk : k < n) : r[pos r k]? = some (k : Int) := by
  have h1 := List.idxOf_lt_length_of_mem (mem_row B hr hk)
  have h2 := List.getElem_idxOf h1
  unfold pos
  rw [List.getElem?_eq_getElem h1, h2]
theorem pos_id (hk : k < n) : pos (idL n) k = k := by
  unfold pos idL
  have hnd : ((List.range n).map (Nat.cast : Nat → Int)).Nodup := List.pairwise_map.mpr (List.nodup_range.imp fun {a b} hab e => hab (by exact_mod_cast e))
  have hl : k < ((List.range n).map (Nat.cast : Nat → Int)).length := by simp [hk]
  have e : ((List.range n).map (Nat.cast : Nat → Int))[k] = (k : Int) := by simp
  have := List.Nodup.idxOf_getElem hnd k hl
  rw [e] at this
  exact this
theorem pos_inj (B : BF n) (hr : Row n r) (ha : a < n) (hb : b < n) (e : pos r a = pos r b) : a = b := by
  have h1 := at_pos B hr ha
  rw [e, at_pos B hr hb] at h1
  have := Option.some.inj h1
  omega
theorem idx_map (f : Int → Int) (x : Int) (y : Int) : ∀ q : List Int, (∀ z ∈ q, f z = x ↔ z = y) → (q.map f).idxOf x = q.idxOf y
  | [], _ => rfl
  | z :: q, h => by
    rw [List.map_cons, List.idxOf_cons, List.idxOf_cons, idx_map f x y q fun w hw => h w (List.mem_cons_of_mem _ hw)]
    have hz := h z List.mem_cons_self
    by_cases c : z = y
    · rw [c, beq_self_eq_true, hz.mpr c |> (fun e => by rw [← c, e] : f z = x → f y = x), beq_self_eq_true]
    · rw [beq_eq_false_iff_ne.mpr c, beq_eq_false_iff_ne.mpr fun e => c (hz.mp e)]
theorem pos_comp (B : BF n) (hh : Row n h) (hq : Row n q) (hk : k < n) : pos (comp h q) k = pos q (pos h k) := by
  refine idx_map _ _ _ q fun z hz => ?_
  have hb := hq.rng z hz
  obtain ⟨j, rfl⟩ := Int.eq_ofNat_of_zero_le hb.1
  have hj : j < h.length := by rw [hh.len]; omega
  have hp := at_pos B hh hk
  have hpl := pos_lt B hh hk
  have hpl2 : pos h k < h.length := by rw [hh.len]; exact hpl
  rw [Int.toNat_natCast, List.getD_eq_getElem?_getD, List.getElem?_eq_getElem hj]
  rw [List.getElem?_eq_getElem hpl2] at hp
  show h[j] = (k : Int) ↔ ((j : Nat) : Int) = ((pos h k : Nat) : Int)
  rw [← Option.some.inj hp, List.getElem_inj hh.nd]
  omega
theorem inv_at (hk : k < n) : (invL n r)[k]? = some ((pos r k : Nat) : Int) := by
  unfold invL idL
  rw [List.map_map, List.getElem?_map, List.getElem?_range hk]; rfl
/-! ### leads behind leads -/
def orb (n : Nat) (t : List Int) (b i : Nat) : Nat := pos (powL n t i) b
theorem orb_zero (hb : b < n) : orb n t b 0 = b := pos_id hb
theorem orb_lt (B : BF n) (ht : Row n t) (hb : b < n) (i : Nat) : orb n t b i < n := pos_lt B (pow_row B ht i) hb
theorem orb_add (B : BF n) (ht : Row n t) (hb : b < n) (i j : Nat) : orb n t b (i + j) = orb n t (orb n t b i) j := by
  unfold orb
  rw [pow_add B ht, pos_comp B (pow_row B ht i) (pow_row B ht j) hb]
theorem orb_succ (B : BF n) (ht : Row n t) (hb : b < n) (i : Nat) : orb n t b (i + 1) = pos t (orb n t b i) := by
  unfold orb
  show pos (comp (powL n t i) t) b = _
  rw [pos_comp B (pow_row B ht i) ht hb]
structure Per (n : Nat) (t : List Int) (b p : Nat) : Prop where
  one : 1 ≤ p
  back : orb n t b p = b
  first : ∀ j, 1 ≤ j → j < p → orb n t b j ≠ b
theorem per_ex (O : Ord n t m) (hb : b < n) : ∃ p, p ≤ m ∧ Per n t b p := by
  have hm := O.pos
  have hback : orb n t b m = b := by unfold orb; rw [O.back]; exact pos_id hb
  obtain ⟨k, h1, h2, h3⟩ := least (p := fun k => orb n t b (k + 1) = b) (m - 1) (by rw [Nat.sub_add_cancel hm]; exact hback)
  refine ⟨k + 1, by omega, by omega, h2, fun j j1 j2 e => ?_⟩
  obtain ⟨i, rfl⟩ : ∃ i, j = i + 1 := ⟨j - 1, by omega⟩
  exact h3 i (by omega) e
theorem orb_ne (B : BF n) (ht : Row n t) (hb : b < n) (P : Per n t b p) {i j : Nat} (hij : i < j) (hj : j < p) : orb n t b i ≠ orb n t b j := by
  intro e
  have h1 := orb_add B ht hb (j - i) i
  rw [Nat.sub_add_cancel (Nat.le_of_lt hij)] at h1
  rw [h1] at e
  have h2 : orb n t b (j - i) = b := (pos_inj B (pow_row B ht i) hb (orb_lt B ht hb _) e).symm
  exact P.first (j - i) (by omega) (by omega) h2
theorem orb_mod (B : BF n) (ht : Row n t) (hb : b < n) (P : Per n t b p) (i : Nat) : orb n t b i = orb n t b (i % p) := by
  have hk : ∀ k, orb n t b (p * k) = b := by
    intro k
    induction k with
    | zero => exact orb_zero hb
    | succ k ih => rw [Nat.mul_succ, orb_add B ht hb, ih, P.back]
  conv => lhs; rw [← Nat.div_add_mod i p]
  rw [orb_add B ht hb, hk]
abbrev orbL (n : Nat) (t : List Int) (b p : Nat) : List Nat := (List.range p).map (orb n t b)
theorem orbL_succ (p : Nat) : orbL n t b (p + 1) = orbL n t b p ++ [orb n t b p] := by
  show (List.range (p + 1)).map (orb n t b) = (List.range p).map (orb n t b) ++ [orb n t b p]
  rw [List.range_succ, List.map_append, List.map_singleton]
theorem orbL_len : (orbL n t b p).length = p := by rw [List.length_map, List.length_range]
theorem orbL_mem {x : Nat} : x ∈ orbL n t b p ↔ ∃ i, i < p ∧ orb n t b i = x := by
  rw [List.mem_map]
  exact ⟨fun ⟨i, hi, e⟩ => ⟨i, List.mem_range.mp hi, e⟩, fun ⟨i, hi, e⟩ => ⟨i, List.mem_range.mpr hi, e⟩⟩
theorem orbL_idx (B : BF n) (ht : Row n t) (hb : b < n) (P : Per n t b p) {i : Nat} (hi : i < p) : (orbL n t b p).idxOf (orb n t b i) = i := by
  have hnd : (orbL n t b p).Nodup := by
    refine List.pairwise_iff_getElem.mpr fun x y hx hy hxy e => ?_
    rw [orbL_len] at hx hy
    unfold orbL at e
    rw [List.getElem_map, List.getElem_map, List.getElem_range, List.getElem_range] at e
    exact orb_ne B ht hb P hxy hy e
  have hl : i < (orbL n t b p).length := by rw [orbL_len]; exact hi
  have e : (orbL n t b p)[i] = orb n t b i := by rw [List.getElem_map, List.getElem_range]
  have := List.Nodup.idxOf_getElem hnd i hl
  rw [e] at this
  exact this
/-! ### the program's words -/
theorem want_pl (B : BF n) (hk : k < n) : f_want_place [methD n cs ks, .int (k : Nat)] = .ret .non := by
  have f1 := within k 0 ((n : Int) - 1) ⟨by omega, by omega⟩
  exact runF_nx (if_f (not_t (te (callN_eq (argsN_eq (var_int rfl) (argsN_eq con_eq (argsN_eq (bin2_eq (bin2_eq (var_M (n := n) (cs := cs) (ks := ks) rfl) con_eq mix1) con_eq rfl) args0_eq))) (cF f1 rfl)))) rfl)
theorem want_be (B : BF n) (hk : k < n) : f_want_bell [methD n cs ks, .int (k : Nat)] = .ret .non := by
  have f1 := within k 0 ((n : Int) - 1) ⟨by omega, by omega⟩
  exact runF_nx (if_f (not_t (te (callN_eq (argsN_eq (var_int rfl) (argsN_eq con_eq (argsN_eq (bin2_eq (bin2_eq (var_M (n := n) (cs := cs) (ks := ks) rfl) con_eq mix1) con_eq rfl) args0_eq))) (cF f1 rfl)))) rfl)
theorem comp_idx {src : Dn.Env → T (List D)} {v : Nat} {b : Dn.Env → T D} {env : Dn.Env} (B : BF n) {rs : List (List Int)} (hrs : ∀ r ∈ rs, Row n r) (hk : k < n) (hs : src env = .ret (rs.map tiD)) (hl : rs.length ≤ 1000000) (hb : ∀ r, b ((wipeE env [v]).set v (some (tiD r))) = .ret (.int (k : Nat))) (hv : ∀ r, var v ((wipeE env [v]).set v (some (tiD r))) = .ret (tiD r)) :
    compE src (tgN v) yesT (idxE (var v) b) [v] env = .ret (intL .own (rs.map fun r => pos r k)) := by
  have h := compFE (α := List Int) (src := src) (v := v) (cond := yesT) (elt := idxE (var v) b) (env := env) (fun _ => true) tiD (fun r => D.int (pos r k : Nat)) (I := rs) hs hl fun r hr => ⟨rfl, idx_eq (hv r) (hb r) (mem_row B (hrs r hr) hk), rfl⟩
  rw [List.filter_eq_self.mpr fun _ _ => rfl] at h
  rw [h]
  unfold intL
  rw [List.map_map]; rfl
abbrev leadR (n : Nat) (cs : List (List Int)) : List (List Int) := pathL (idL n) cs.dropLast
theorem leadR_row (B : BF n) : ∀ r ∈ leadR n cs, Row n r := pathL_rows _ _ B.idrow
theorem leadR_len (hx : cs ≠ []) : (leadR n cs).length = cs.length := by
  have : 0 < cs.length := List.length_pos_iff.mpr hx
  rw [pathL_len, List.length_dropLast]; omega
abbrev pathN (n : Nat) (cs : List (List Int)) (k : Nat) : List Nat := (leadR n cs).map fun r => pos r k
theorem path_of (B : BF n) (w : MethW n cs ks l) (hk : k < n) : f_path_of [methD n cs ks, .int (k : Nat)] = .ret (intL .own (pathN n cs k)) := by
  have hx := w_ne w
  have hf := w.few
  refine runF_rt (retS_eq (comp_idx B (leadR_row B) hk (src_row (f := .own) (.inr rfl) (callN_eq (argsN_eq (var_M rfl) args0_eq) (cF (lead_of B w.cs (by omega) hx) rfl))) (by rw [leadR_len hx]; omega) (fun r => var_int rfl) fun r => var_ti rfl) (clean_intL rfl _))
theorem path_ok (B : BF n) (w : MethW n cs ks l) (hk : k < n) : f_path [methD n cs ks, .int (k : Nat)] = .ret (intL .own (pathN n cs k)) :=
  runF_rt (seqS_nx (dropS_eq (callN_eq (argsN_eq (var_M rfl) args0_eq) (cF (want_meth B w) rfl))) (seqS_nx (dropS_eq (callN_eq (argsN_eq (var_M rfl) (argsN_eq (var_int rfl) args0_eq)) (cF (want_pl B hk) rfl))) (retS_eq (callN_eq (argsN_eq (var_M rfl) (argsN_eq (var_int rfl) args0_eq)) (cF (path_of B w hk) rfl)) (clean_intL rfl _))))
theorem from_ok (B : BF n) (w : MethW n cs ks l) (hh : Row n h) (hk : k < n) : f_path_from [methD n cs ks, tiD h, .int (k : Nat)] = .ret (intL .own (pathN n cs (pos h k))) :=
  runF_rt (seqS_nx (dropS_eq (callN_eq (argsN_eq (var_M rfl) args0_eq) (cF (want_meth B w) rfl))) (seqS_nx (dropS_eq (callN_eq (argsN_eq (bin2_eq (var_M rfl) con_eq mix1) (argsN_eq (var_ti (r := h) rfl) args0_eq)) (cF (want_row B hh) rfl))) (seqS_nx (dropS_eq (callN_eq (argsN_eq (var_M rfl) (argsN_eq (var_int rfl) args0_eq)) (cF (want_be B hk) rfl))) (retS_eq (callN_eq (argsN_eq (var_M rfl) (argsN_eq (idx_eq (var_ti (r := h) rfl) (var_int rfl) (mem_row B hh hk)) args0_eq)) (cF (path_of B w (pos_lt B hh hk)) rfl)) (clean_intL rfl _)))))
abbrev planT (n : Nat) (cs : List (List Int)) (l : List Int) : List Int := turnL n cs l
theorem heads0 (B : BF n) (w : MethW n cs ks l) (O : Ord n (turnL n cs l) m) : f_heads_told [methD n cs ks, .int 0] = .ret (rowD .own (headsL n m (turnL n cs l))) := heads_told B w (k := 0) (c := l) rfl O
def workN (n m : Nat) (t : List Int) (ls : List (List Int)) (k : Nat) : List Nat := (crowsL n m t ls).map fun r => pos r k
theorem work_loop (B : BF n) (w : MethW n cs ks l) (hk : k < n) : ∀ (hs : List (List Int)) (F : List Nat) (o3 : Option D), (∀ h ∈ hs, Row n h) → F.length + hs.length * 40 ≤ 100000 →
    ∃ p3, loopS (tgN 3) (extendS 2 (callN (callF 2 f_path_of) (argsN (var 0) (argsN (idxE (var 3) (var 1)) args0)))) (hs.map tiD) [some (methD n cs ks), some (.int (k : Nat)), some (intL .own F), o3] = .ret (.nx [some (methD n cs ks), some (.int (k : Nat)), some (intL .own (F ++ (hs.flatMap fun h => (leadR n cs).map (comp h)).map fun r => pos r k)), p3])
  | [], F, o3, _, _ => ⟨o3, by show _ = T.ret (Out.nx [some (methD n cs ks), some (.int (k : Nat)), some (intL .own (F ++ [])), o3]); rw [List.append_nil]; rfl⟩
  | h :: hs, F, o3, hh, hl => by
    rw [List.length_cons] at hl
    have hf := w.few
    have hx := w_ne w
    have hr := hh h List.mem_cons_self
    have hp : (pathN n cs (pos h k)).length = cs.length := by rw [List.length_map, leadR_len hx]
    obtain ⟨p3, e⟩ := work_loop B w hk hs (F ++ pathN n cs (pos h k)) (some (tiD h)) (fun x hx => hh x (List.mem_cons_of_mem _ hx)) (by rw [List.length_append, hp]; omega)
    have e2 : pathN n cs (pos h k) = ((leadR n cs).map (comp h)).map fun r => pos r k := by
      rw [List.map_map]
      exact List.map_congr_left fun r hrm => (pos_comp B hr (leadR_row B r hrm) hk).symm
    refine ⟨p3, ?_⟩
    rw [List.map_cons]
    refine loop_nx (e1 := [some (methD n cs ks), some (.int (k : Nat)), some (intL .own F), some (tiD h)]) (e2 := [some (methD n cs ks), some (.int (k : Nat)), some (intL .own (F ++ pathN n cs (pos h k))), some (tiD h)]) rfl ?_ (e.trans ?_)
    · refine (ext_eq (xs := F.map fun i : Nat => D.int i) (ys := (pathN n cs (pos h k)).map fun i : Nat => D.int i) rfl (callN_eq (argsN_eq (var_M rfl) (argsN_eq (idx_eq (var_ti (r := h) rfl) (var_int rfl) (mem_row B hr hk)) args0_eq)) (cF (path_of B w (pos_lt B hr hk)) rfl)) (by rw [List.length_map, List.length_map, hp]; omega)).trans ?_
      rw [← List.map_append]; rfl
    · rw [List.flatMap_cons, List.map_append, ← e2, List.append_assoc]
theorem work_of (B : BF n) (w : MethW n cs ks l) (O : Ord n (turnL n cs l) m) (hk : k < n) : f_work_of [methD n cs ks, .int (k : Nat)] = .ret (intL .own (workN n m (turnL n cs l) (leadR n cs) k)) := by
  have h6 := O.six
  obtain ⟨p3, e⟩ := work_loop B w hk (headsL n m (turnL n cs l)) [] none (headsL_row B (turn_row B)) (by rw [headsL_len, List.length_nil]; omega)
  rw [List.nil_append] at e
  refine runF_rt (seqS_nx (setS_eq (d := intL .own []) rfl rfl) (seqS_nx (for_eq (src_row (f := .own) (.inl (by decide)) (callN_eq (argsN_eq (var_M rfl) (argsN_eq con_eq args0_eq)) (cF (heads0 B w O) rfl))) e) ((retV_some rfl).trans (if_pos (clean_intL rfl _)))))
theorem work_ok (B : BF n) (w : MethW n cs ks l) (O : Ord n (turnL n cs l) m) (hk : k < n) : f_work [methD n cs ks, .int (k : Nat)] = .ret (intL .own (workN n m (turnL n cs l) (leadR n cs) k)) :=
  runF_rt (seqS_nx (dropS_eq (callN_eq (argsN_eq (var_M rfl) args0_eq) (cF (want_meth B w) rfl))) (seqS_nx (dropS_eq (callN_eq (argsN_eq (var_M rfl) (argsN_eq (var_int rfl) args0_eq)) (cF (want_be B hk) rfl))) (retS_eq (callN_eq (argsN_eq (var_M rfl) (argsN_eq (var_int rfl) args0_eq)) (cF (work_of B w O hk) rfl)) (clean_intL rfl _))))
theorem ixI_last {f : Fl} {I : List Nat} {x : Nat} : D.ix (intL f (I ++ [x])) (.int (-1)) = .ret (.int (x : Nat)) := by
  show (T.ofO (atI ((I ++ [x]).map fun i : Nat => D.int i) (-1))).bind _ = _
  rw [atI_last _ (by simp), List.getLast?_map, List.getLast?_concat]
  cases f <;> rfl
theorem ixI_at {f : Fl} {I : List Nat} {j x : Nat} (h : I[j]? = some x) : D.ix (intL f I) (.int (j : Nat)) = .ret (.int (x : Nat)) := by
  have hj := (List.getElem?_eq_some_iff.mp h).1
  show (T.ofO (atI (I.map fun i : Nat => D.int i) (j : Int))).bind _ = _
  rw [Dn.atI_nat _ j (by rw [List.length_map]; exact hj), List.getElem?_map, h]
  cases f <;> rfl
theorem order_wh (B : BF n) (ht : Row n t) (hb : b < n) (P : Per n t b p) {a0 : Option D} : ∀ (d j fuel : Nat), j + d = p → 1 ≤ j → d < fuel → j ≤ 1000 - d →
    whileS (testE (bin2 D.ne (bin2 D.ix (var 2) (bin2 D.ix (var 3) (un1 D.neg (con (.int 1))))) (var 1))) (appendS 3 (bin2 D.ix (var 2) (bin2 D.ix (var 3) (un1 D.neg (con (.int 1)))))) fuel [a0, some (.int (b : Nat)), some (tiD (invL n t)), some (intL .own (orbL n t b j))] = .ret (.nx [a0, some (.int (b : Nat)), some (tiD (invL n t)), some (intL .own (orbL n t b p))])
  | d, j, 0, _, _, h, _ => absurd h (Nat.not_lt_zero _)
  | d, j, fuel + 1, hj, h1, hf, hl => by
    have hbk : ∀ F : Fl, bin2 D.ix (var 2) (bin2 D.ix (var 3) (un1 D.neg (con (.int 1)))) [a0, some (.int (b : Nat)), some (tiD (invL n t)), some (intL .own (orbL n t b j))] = .ret (.int (orb n t b j : Nat)) := fun _ => by
      obtain ⟨i, rfl⟩ : ∃ i, j = i + 1 := ⟨j - 1, by omega⟩
      rw [orbL_succ, orb_succ B ht hb]
      exact bin2_eq (var_ti rfl) (bin2_eq (x := intL .bor (orbL n t b i ++ [orb n t b i])) rfl rfl ixI_last) (ixXT (inv_at (orb_lt B ht hb i)))
    have hc : testE (bin2 D.ne (bin2 D.ix (var 2) (bin2 D.ix (var 3) (un1 D.neg (con (.int 1))))) (var 1)) [a0, some (.int (b : Nat)), some (tiD (invL n t)), some (intL .own (orbL n t b j))] = .ret (!decide (orb n t b j = b)) := by
      refine te ((bin2_eq (hbk .own) (var_int rfl) (Dn.ne_int _ _)).trans ?_)
      by_cases c : orb n t b j = b
      · rw [c, decide_eq_true rfl, beq_self_eq_true]
      · rw [decide_eq_false c, beq_eq_false_iff_ne.mpr (by omega)]
    cases d with
    | zero =>
      have e : j = p := by omega
      subst e
      rw [P.back, decide_eq_true rfl] at hc
      exact while_f hc
    | succ d =>
      rw [decide_eq_false (P.first j h1 (by omega))] at hc
      refine while_t hc (e := [a0, some (.int (b : Nat)), some (tiD (invL n t)), some (intL .own (orbL n t b (j + 1)))]) ?_ (order_wh B ht hb P d (j + 1) fuel (by omega) (by omega) (by omega) (by omega))
      refine (app_eq (d := .int (orb n t b j : Nat)) (xs := (orbL n t b j).map fun i : Nat => D.int i) rfl (hbk .own) rfl (by rw [List.length_map, orbL_len]; omega)).trans ?_
      rw [orbL_succ]
      show T.ret (Out.nx [a0, some (.int (b : Nat)), some (tiD (invL n t)), some (.lst .own ((orbL n t b j).map (fun i : Nat => D.int i) ++ [.int (orb n t b j : Nat)]))]) = _
      unfold intL
      rw [List.map_append]; rfl
theorem order_pl (B : BF n) (w : MethW n cs ks l) (hb : b < n) (P : Per n (turnL n cs l) b p) (hp : p ≤ 6) : f_order_places [methD n cs ks, .int (b : Nat)] = .ret (intL .own (orbL n (turnL n cs l) b p)) := by
  have hf := w.few
  have hf2 := w.few2
  have hT := turn_row B (cs := cs) (c := l)
  have f1 := turns_of B w.cs w.ks (by omega) (by omega) w.last
  have h1 := P.one
  have e := order_wh B hT hb P (a0 := some (methD n cs ks)) (p - 1) 1 1000 (by omega) (Nat.le_refl _) (by omega) (by omega)
  have e1 : orbL n (turnL n cs l) b 1 = [b] := by
    show [orb n (turnL n cs l) b 0] = [b]
    rw [orb_zero hb]
  rw [e1] at e
  refine runF_rt (seqS_nx (e := [some (methD n cs ks), some (.int (b : Nat)), some (tiD (invL n (turnL n cs l))), some (intL .own [b])]) (T.bind_eq (argsN_eq (callN_eq (argsN_eq (bin2_eq (callN_eq (argsN_eq (var_M rfl) args0_eq) (cF f1 rfl)) con_eq (ixXTs (k := 0) rfl)) args0_eq) (cF (pinv B hT) rfl)) (argsN_eq (x := intL .own [b]) (callN_eq (argsN_eq (var_int rfl) args0_eq) rfl) args0_eq)) rfl) (seqS_nx e ((retV_some rfl).trans (if_pos (clean_intL rfl _)))))
theorem places_ok (B : BF n) (w : MethW n cs ks l) (hb : b < n) (P : Per n (turnL n cs l) b p) (hp : p ≤ 6) : f_lead_places [methD n cs ks, .int (b : Nat)] = .ret (intL .own (orbL n (turnL n cs l) b p)) :=
  runF_rt (seqS_nx (dropS_eq (callN_eq (argsN_eq (var_M rfl) args0_eq) (cF (want_meth B w) rfl))) (seqS_nx (dropS_eq (callN_eq (argsN_eq (var_M rfl) (argsN_eq (var_int rfl) args0_eq)) (cF (want_be B hb) rfl))) (retS_eq (callN_eq (argsN_eq (var_M rfl) (argsN_eq (var_int rfl) args0_eq)) (cF (order_pl B w hb P hp) rfl)) (clean_intL rfl _))))
end
end My

set_option Elab.async false
set_option linter.all false
set_option maxRecDepth 100000
set_option maxHeartbeats 1000000
namespace My
open PySem PySem.Spec PyProof.Rows L2 Dn
/-! ## k24: work, crossings -/

theorem andT_b {a b : Dn.Env → T Bool} {env : Dn.Env} {p q : Bool} (h : a env = .ret p) (h2 : p = true → b env = .ret q) : andT a b env = .ret (p && q) := by
  refine T.bind_eq h ?_
  cases p
  · exact if_neg Bool.false_ne_true
  · exact (if_pos rfl).trans (h2 rfl)
theorem var_ts {env : Dn.Env} {i : Nat} {cs : List (List Int)} (e : env[i]? = some (some (tsD cs))) : var i env = .ret (tsD cs) := by unfold var; rw [e]; rfl
theorem add_intL {f g : Fl} (I J : List Nat) (h : I.length + J.length ≤ 1000000) : D.add (intL f I) (intL g J) = .ret (intL .own (I ++ J)) := by
  show (if _ then _ else _) = _
  rw [if_pos (by rw [List.length_map, List.length_map]; exact h), ← List.map_append]
  have hf : ((I ++ J).map fun i : Nat => D.int i).all flatD = true := by
    rw [List.all_eq_true]
    intro d hd
    obtain ⟨i, _, rfl⟩ := List.mem_map.mp hd
    rfl
  unfold newL
  rw [hf]; rfl
def lotL (I : List Nat) : List Int := isort ltI (I.map fun i : Nat => (i : Int))
theorem lot_eq {f : Fl} {I : List Nat} {e : Dn.Env → T D} {env : Dn.Env} (h : e env = .ret (intL f I)) : callN (one D.toTup) (argsN (callN (one D.sortedX) (argsN e args0)) args0) env = .ret (tiD (lotL I)) := by
  refine callN_eq (argsN_eq (x := .lst .own ((lotL I).map D.int)) (callN_eq (argsN_eq h args0_eq) (one_eq ?_)) args0_eq) (one_eq toTup_ti)
  show (match intsOf (I.map fun i : Nat => D.int i) with | some ns => T.ret (D.lst .own ((isort ltI ns).map D.int)) | none => _) = _
  rw [ti_of, Dn.ints_of]; rfl
theorem sortSet_row (f : Fl) {rs : List (List Int)} (h : rs.length < 64) : D.sortSetO (rowD f rs) = .ret (rowD .own (isort HT.lexLt (ddL rs))) := by
  show (T.ofO (tisOf (rs.map tiD))).bind _ = _
  rw [tis_of]
  exact if_pos h
section
variable {n m p : Nat} {cs ks : List (List Int)} {r s t c l h q : List Int} {a b k : Nat}
/-- what order_places tells -/
@[irreducible] def plF (M : D) (b : Nat) : List Nat := match f_order_places [M, .int (b : Nat)] with | .ret (.lst _ xs) => ((intsOf xs).getD []).map Int.toNat | _ => []
theorem pl_ok (B : BF n) (w : MethW n cs ks l) (O : Ord n (turnL n cs l) m) (hb : b < n) : ∃ p, p ≤ m ∧ Per n (turnL n cs l) b p ∧ plF (methD n cs ks) b = orbL n (turnL n cs l) b p ∧ f_order_places [methD n cs ks, .int (b : Nat)] = .ret (intL .own (plF (methD n cs ks) b)) ∧ f_lead_places [methD n cs ks, .int (b : Nat)] = .ret (intL .own (plF (methD n cs ks) b)) := by
  have h6 := O.six
  obtain ⟨p, hp, P⟩ := per_ex O hb
  have h1 := order_pl B w hb P (by omega)
  have h2 := places_ok B w hb P (by omega)
  have e : plF (methD n cs ks) b = orbL n (turnL n cs l) b p := by
    unfold plF
    rw [h1]
    show ((intsOf ((orbL n (turnL n cs l) b p).map fun i : Nat => D.int i)).getD []).map Int.toNat = _
    rw [ti_of, Dn.ints_of]
    show ((orbL n (turnL n cs l) b p).map fun i : Nat => (i : Int)).map Int.toNat = _
    rw [List.map_map]
    exact (List.map_congr_left fun i _ => Int.toNat_natCast i).trans (List.map_id _)
  exact ⟨p, hp, P, e, by rw [e]; exact h1, by rw [e]; exact h2⟩
def swL (n : Nat) (M : D) : List (List Int) := isort HT.lexLt (ddL ((List.range n).map fun b => lotL (plF M b)))
theorem same_ok (B : BF n) (w : MethW n cs ks l) : f_same_work [methD n cs ks] = .ret (rowD .own (swL n (methD n cs ks))) := by
  have hn := B.hi
  obtain ⟨m, O⟩ := ord_ex B (turn_row B (cs := cs) (c := l))
  refine runF_rt (seqS_nx (dropS_eq (callN_eq (argsN_eq (var_M rfl) args0_eq) (cF (want_meth B w) rfl))) (retS_eq (un1_eq (x := rowD .own ((List.range n).map fun b => lotL (plF (methD n cs ks) b))) ?_ (sortSet_row _ (by rw [List.length_map, List.length_range]; omega))) (clean_rowD rfl _)))
  have e := compFE (α := Nat) (src := srcR (rg1 (bin2 D.ix (var 0) (con (.int 1))))) (v := 1) (cond := yesT) (elt := callN (one D.toTup) (argsN (callN (one D.sortedX) (argsN (callN (callF 2 f_order_places) (argsN (var 0) (argsN (var 1) args0))) args0)) args0)) (env := [some (methD n cs ks), none]) (fun _ => true) (fun i : Nat => D.int i) (fun b => tiD (lotL (plF (methD n cs ks) b))) (I := List.range n) (rg_src (m := n) (bin2_eq (var_M rfl) con_eq mix1) (by omega)) (by rw [List.length_range]; omega) fun b hb => by
    obtain ⟨_, _, _, _, h1, _⟩ := pl_ok B w O (List.mem_range.mp hb)
    exact ⟨rfl, lot_eq (callN_eq (argsN_eq (var_M (n := n) (cs := cs) (ks := ks) (i := 0) rfl) (argsN_eq (var_int (i := 1) (n := (b : Int)) rfl) args0_eq)) (cF h1 rfl)), rfl⟩
  rw [List.filter_eq_self.mpr fun _ _ => rfl] at e
  refine e.trans ?_
  unfold rowD
  rw [List.map_map]; rfl
def lbD (M : D) (b f : Nat) : D := if f ∈ plF M b then .int ((plF M b).idxOf f : Nat) else .non
theorem behind_ok (B : BF n) (w : MethW n cs ks l) (hb : b < n) (hk : k < n) : f_leads_behind [methD n cs ks, .int (b : Nat), .int (k : Nat)] = .ret (lbD (methD n cs ks) b k) := by
  obtain ⟨m, O⟩ := ord_ex B (turn_row B (cs := cs) (c := l))
  obtain ⟨_, _, _, _, h1, _⟩ := pl_ok B w O hb
  refine runF_rt (seqS_nx (dropS_eq (callN_eq (argsN_eq (var_M rfl) args0_eq) (cF (want_meth B w) rfl))) (seqS_nx (dropS_eq (callN_eq (argsN_eq (var_M rfl) (argsN_eq (var_int rfl) args0_eq)) (cF (want_be B hb) rfl))) (seqS_nx (dropS_eq (callN_eq (argsN_eq (var_M rfl) (argsN_eq (var_int rfl) args0_eq)) (cF (want_be B hk) rfl))) (seqS_nx (setS_eq (d := intL .own (plF (methD n cs ks) b)) (callN_eq (argsN_eq (var_M rfl) (argsN_eq (var_int rfl) args0_eq)) (cF h1 rfl)) rfl) ?_))))
  have ht : testE (bin2 (inList false) (var 2) (var 3)) [some (methD n cs ks), some (.int (b : Nat)), some (.int (k : Nat)), some (intL .own (plF (methD n cs ks) b))] = .ret (decide (k ∈ plF (methD n cs ks) b)) := te (bin2_eq (var_int rfl) (y := intL .bor (plF (methD n cs ks) b)) rfl (in_intL _ _ _))
  unfold lbD
  by_cases c : k ∈ plF (methD n cs ks) b
  · rw [decide_eq_true c] at ht
    rw [if_pos c]
    exact retS_eq (T.bind_eq ht ((if_pos rfl).trans (T.bind_eq (a := intL .bor (plF (methD n cs ks) b)) rfl (T.bind_eq (a := .int (k : Nat)) (var_int rfl) (idx_nats c))))) (sc_int _)
  · rw [decide_eq_false c] at ht
    rw [if_neg c]
    exact retS_eq (T.bind_eq ht ((if_neg Bool.false_ne_true).trans rfl)) (by rw [clean])
/-! ### crossings -/
def pR (n : Nat) (cs : List (List Int)) (j b : Nat) : Nat := pos (sq n cs j) b
theorem near_eq (h : cs.getLast? = some l) : pathN n cs b ++ [pos (turnL n cs l) b] = (List.range (cs.length + 1)).map fun j => pR n cs j b := by
  have hx : cs ≠ [] := by intro e; rw [e] at h; cases h
  show (leadR n cs).map (fun r => pos r b) ++ _ = _
  unfold leadR
  rw [lead_sq hx, sq_turn h, List.range_succ, List.map_append, List.map_map]; rfl
def crB (n : Nat) (cs : List (List Int)) (b f j : Nat) : Bool := !decide (b = f) && decide (([((pR n cs j b : Nat) : Int), ((pR n cs j f : Nat) : Int)] : List Int) = [((pR n cs (j + 1) f : Nat) : Int), ((pR n cs (j + 1) b : Nat) : Int)])
theorem crB_symm (b f j : Nat) : crB n cs b f j = crB n cs f b j := by
  unfold crB
  rw [Bool.eq_iff_iff]
  simp only [Bool.and_eq_true, Bool.not_eq_true', decide_eq_false_iff_not, decide_eq_true_eq, List.cons.injEq, and_true]
  constructor
  · rintro ⟨h1, h2, h3⟩
    exact ⟨fun e => h1 e.symm, h3, h2⟩
  · rintro ⟨h1, h2, h3⟩
    exact ⟨fun e => h1 e.symm, h3, h2⟩
def crossL (n : Nat) (cs : List (List Int)) (b f : Nat) : List Nat := (List.range cs.length).filter (crB n cs b f)
theorem cross_symm (b f : Nat) : crossL n cs b f = crossL n cs f b := by
  unfold crossL
  exact List.filter_congr fun j _ => crB_symm b f j
theorem nb_at {N j : Nat} (hj : j < N) : ((List.range N).map fun j => pR n cs j b)[j]? = some (pR n cs j b) := by
  rw [List.getElem?_map, List.getElem?_range hj]; rfl
abbrev crS : SD := ifS (andT (testE (bin2 D.ne (var 1) (var 2))) (testE (bin2 D.eq (callN tupD (argsN (bin2 D.ix (var 3) (var 7)) (argsN (bin2 D.ix (var 4) (var 7)) args0))) (callN tupD (argsN (bin2 D.ix (var 4) (bin2 D.add (var 7) (con (.int 1)))) (argsN (bin2 D.ix (var 3) (bin2 D.add (var 7) (con (.int 1)))) args0)))))) (appendS 6 (var 7)) skipS
theorem ne_nat (i j : Nat) : D.ne (.int (i : Nat)) (.int (j : Nat)) = .ret (.bl (!decide (i = j))) := by
  rw [Dn.ne_int]
  by_cases c : i = j
  · rw [c, decide_eq_true rfl, beq_self_eq_true]
  · rw [decide_eq_false c, beq_eq_false_iff_ne.mpr (by omega)]
theorem app_int {i : Nat} {e : Dn.Env → T D} {env : Dn.Env} {I : List Nat} {x : Nat} (h : env[i]? = some (some (intL .own I))) (he : e env = .ret (.int (x : Nat))) (hl : I.length ≤ 1000) : appendS i e env = .ret (.nx (env.set i (some (intL .own (I ++ [x]))))) := by
  refine (app_eq (d := .int (x : Nat)) (xs := I.map fun i : Nat => D.int i) h he rfl (by rw [List.length_map]; omega)).trans ?_
  unfold intL
  rw [List.map_append]; rfl
theorem cross_loop {a0 a5 : Option D} : ∀ (J F : List Nat) (o7 : Option D), (∀ j ∈ J, j < cs.length) → F.length + J.length ≤ 1000 →
    ∃ p7, loopS (tgN 7) crS (J.map fun i : Nat => D.int i) [a0, some (.int (b : Nat)), some (.int (k : Nat)), some (intL .own ((List.range (cs.length + 1)).map fun j => pR n cs j b)), some (intL .own ((List.range (cs.length + 1)).map fun j => pR n cs j k)), a5, some (intL .own F), o7] = .ret (.nx [a0, some (.int (b : Nat)), some (.int (k : Nat)), some (intL .own ((List.range (cs.length + 1)).map fun j => pR n cs j b)), some (intL .own ((List.range (cs.length + 1)).map fun j => pR n cs j k)), a5, some (intL .own (F ++ J.filter (crB n cs b k))), p7])
  | [], F, o7, _, _ => ⟨o7, by rw [List.filter_nil, List.append_nil]; rfl⟩
  | j :: J, F, o7, hJ, hl => by
    rw [List.length_cons] at hl
    have hj := hJ j List.mem_cons_self
    have hc : andT (testE (bin2 D.ne (var 1) (var 2))) (testE (bin2 D.eq (callN tupD (argsN (bin2 D.ix (var 3) (var 7)) (argsN (bin2 D.ix (var 4) (var 7)) args0))) (callN tupD (argsN (bin2 D.ix (var 4) (bin2 D.add (var 7) (con (.int 1)))) (argsN (bin2 D.ix (var 3) (bin2 D.add (var 7) (con (.int 1)))) args0))))) [a0, some (.int (b : Nat)), some (.int (k : Nat)), some (intL .own ((List.range (cs.length + 1)).map fun j => pR n cs j b)), some (intL .own ((List.range (cs.length + 1)).map fun j => pR n cs j k)), a5, some (intL .own F), some (.int (j : Nat))] = .ret (crB n cs b k j) := by
      refine andT_b (te (bin2_eq (var_int rfl) (var_int rfl) (ne_nat b k))) fun _ => te ?_
      have g3 : ∀ (x : Dn.Env → T D) (i : Nat), i < cs.length + 1 → x [a0, some (.int (b : Nat)), some (.int (k : Nat)), some (intL .own ((List.range (cs.length + 1)).map fun j => pR n cs j b)), some (intL .own ((List.range (cs.length + 1)).map fun j => pR n cs j k)), a5, some (intL .own F), some (.int (j : Nat))] = .ret (.int (i : Nat)) → bin2 D.ix (var 3) x [a0, some (.int (b : Nat)), some (.int (k : Nat)), some (intL .own ((List.range (cs.length + 1)).map fun j => pR n cs j b)), some (intL .own ((List.range (cs.length + 1)).map fun j => pR n cs j k)), a5, some (intL .own F), some (.int (j : Nat))] = .ret (.int (pR n cs i b : Nat)) := fun x i hi hx => bin2_eq (x := intL .bor ((List.range (cs.length + 1)).map fun j => pR n cs j b)) rfl hx (ixI_at (nb_at hi))
      have g4 : ∀ (x : Dn.Env → T D) (i : Nat), i < cs.length + 1 → x [a0, some (.int (b : Nat)), some (.int (k : Nat)), some (intL .own ((List.range (cs.length + 1)).map fun j => pR n cs j b)), some (intL .own ((List.range (cs.length + 1)).map fun j => pR n cs j k)), a5, some (intL .own F), some (.int (j : Nat))] = .ret (.int (i : Nat)) → bin2 D.ix (var 4) x [a0, some (.int (b : Nat)), some (.int (k : Nat)), some (intL .own ((List.range (cs.length + 1)).map fun j => pR n cs j b)), some (intL .own ((List.range (cs.length + 1)).map fun j => pR n cs j k)), a5, some (intL .own F), some (.int (j : Nat))] = .ret (.int (pR n cs i k : Nat)) := fun x i hi hx => bin2_eq (x := intL .bor ((List.range (cs.length + 1)).map fun j => pR n cs j k)) rfl hx (ixI_at (nb_at hi))
      exact bin2_eq (x := tiD [((pR n cs j b : Nat) : Int), ((pR n cs j k : Nat) : Int)]) (y := tiD [((pR n cs (j + 1) k : Nat) : Int), ((pR n cs (j + 1) b : Nat) : Int)]) (callN_eq (argsN_eq (g3 _ j (by omega) (var_int rfl)) (argsN_eq (g4 _ j (by omega) (var_int rfl)) args0_eq)) rfl) (callN_eq (argsN_eq (g4 _ (j + 1) (by omega) (bin2_eq (var_int rfl) con_eq rfl)) (argsN_eq (g3 _ (j + 1) (by omega) (bin2_eq (var_int rfl) con_eq rfl)) args0_eq)) rfl) (eq_ti _ _)
    rcases Bool.eq_false_or_eq_true (crB n cs b k j) with hb | hb
    · rw [hb] at hc
      obtain ⟨p7, e⟩ := cross_loop (a0 := a0) (a5 := a5) J (F ++ [j]) (some (.int (j : Nat))) (fun x hx => hJ x (List.mem_cons_of_mem _ hx)) (by rw [List.length_append, List.length_singleton]; omega)
      exact ⟨p7, (loop_nx (e1 := [a0, some (.int (b : Nat)), some (.int (k : Nat)), some (intL .own ((List.range (cs.length + 1)).map fun j => pR n cs j b)), some (intL .own ((List.range (cs.length + 1)).map fun j => pR n cs j k)), a5, some (intL .own F), some (.int (j : Nat))]) rfl (if_t hc (app_int rfl (var_int rfl) (by omega))) e).trans (by rw [List.filter_cons_of_pos hb, List.append_assoc]; rfl)⟩
    · rw [hb] at hc
      obtain ⟨p7, e⟩ := cross_loop (a0 := a0) (a5 := a5) J F (some (.int (j : Nat))) (fun x hx => hJ x (List.mem_cons_of_mem _ hx)) (by omega)
      exact ⟨p7, (loop_nx (e1 := [a0, some (.int (b : Nat)), some (.int (k : Nat)), some (intL .own ((List.range (cs.length + 1)).map fun j => pR n cs j b)), some (intL .own ((List.range (cs.length + 1)).map fun j => pR n cs j k)), a5, some (intL .own F), some (.int (j : Nat))]) rfl (if_f hc skip_eq) e).trans (by rw [List.filter_cons_of_neg (by rw [hb]; exact Bool.false_ne_true)])⟩
theorem cross_ok (B : BF n) (w : MethW n cs ks l) (hb : b < n) (hk : k < n) : f_crossings [methD n cs ks, .int (b : Nat), .int (k : Nat)] = .ret (intL .own (crossL n cs b k)) := by
  have hf := w.few
  have hf2 := w.few2
  have hx := w_ne w
  have hT := turn_row B (cs := cs) (c := l)
  have f1 := turns_of B w.cs w.ks (by omega) (by omega) w.last
  have hp : ∀ x, (pathN n cs x).length ≤ 40 := fun x => by rw [List.length_map, leadR_len hx]; omega
  obtain ⟨p7, e⟩ := cross_loop (n := n) (cs := cs) (b := b) (k := k) (a0 := some (methD n cs ks)) (a5 := some (tiD (invL n (turnL n cs l)))) (List.range cs.length) [] none (fun j hj => List.mem_range.mp hj) (by rw [List.length_range, List.length_nil]; omega)
  rw [List.nil_append] at e
  refine runF_rt (seqS_nx (dropS_eq (callN_eq (argsN_eq (var_M rfl) args0_eq) (cF (want_meth B w) rfl))) (seqS_nx (dropS_eq (callN_eq (argsN_eq (var_M rfl) (argsN_eq (var_int rfl) args0_eq)) (cF (want_be B hb) rfl))) (seqS_nx (dropS_eq (callN_eq (argsN_eq (var_M rfl) (argsN_eq (var_int rfl) args0_eq)) (cF (want_be B hk) rfl)))
    (seqS_nx (e := [some (methD n cs ks), some (.int (b : Nat)), some (.int (k : Nat)), some (intL .own (pathN n cs b)), some (intL .own (pathN n cs k)), none, none, none]) (T.bind_eq (argsN_eq (callN_eq (argsN_eq (var_M rfl) (argsN_eq (var_int rfl) args0_eq)) (cF (path_of B w hb) rfl)) (argsN_eq (callN_eq (argsN_eq (var_M rfl) (argsN_eq (var_int rfl) args0_eq)) (cF (path_of B w hk) rfl)) args0_eq)) rfl)
    (seqS_nx (setS_eq (d := tiD (invL n (turnL n cs l))) (callN_eq (argsN_eq (bin2_eq (callN_eq (argsN_eq (var_M rfl) args0_eq) (cF f1 rfl)) con_eq (ixXTs (k := 0) rfl)) args0_eq) (cF (pinv B hT) rfl)) rfl)
    (seqS_nx (e := [some (methD n cs ks), some (.int (b : Nat)), some (.int (k : Nat)), some (intL .own (pathN n cs b ++ [pos (turnL n cs l) b])), some (intL .own (pathN n cs k ++ [pos (turnL n cs l) k])), some (tiD (invL n (turnL n cs l))), none, none]) (T.bind_eq (argsN_eq (bin2_eq (x := intL .bor (pathN n cs b)) (y := intL .own [pos (turnL n cs l) b]) rfl (callN_eq (argsN_eq (bin2_eq (var_ti rfl) (var_int rfl) (ixXT (inv_at hb))) args0_eq) rfl) (add_intL _ _ (by have := hp b; rw [List.length_singleton]; omega))) (argsN_eq (bin2_eq (x := intL .bor (pathN n cs k)) (y := intL .own [pos (turnL n cs l) k]) rfl (callN_eq (argsN_eq (bin2_eq (var_ti rfl) (var_int rfl) (ixXT (inv_at hk))) args0_eq) rfl) (add_intL _ _ (by have := hp k; rw [List.length_singleton]; omega))) args0_eq)) rfl)
    (seqS_nx (setS_eq (d := intL .own []) rfl rfl) ?_)))))))
  rw [near_eq w.last, near_eq w.last]
  exact seqS_nx (for_eq (rg_src (m := cs.length) (callN_eq (argsN_eq (bin2_eq (var_M rfl) con_eq mix2) args0_eq) (one_eq len_ts)) (by omega)) e) ((retV_some rfl).trans (if_pos (clean_intL rfl _)))
/-! ### where a bell begins leads, by the law -/
abbrev begS : SD := ifS (testE (bin2 (inList true) (idxE (var 10) (var 8)) (var 9))) (appendS 9 (idxE (var 10) (var 8))) skipS
theorem beg_loop (B : BF n) (ht : Row n t) (hb : b < n) (P : Per n t b p) (hp : p ≤ 6) {a0 a1 a2 a3 a4 a5 a6 a7 a11 a12 a13 a14 a15 a16 a17 : Option D} : ∀ (d j : Nat) (o10 : Option D), ∃ p10, loopS (tgN 10) begS (((List.range d).map fun i => powL n t (j + i)).map tiD) [a0, a1, a2, a3, a4, a5, a6, a7, some (.int (b : Nat)), some (intL .own (orbL n t b (min j p))), o10, a11, a12, a13, a14, a15, a16, a17] = .ret (.nx [a0, a1, a2, a3, a4, a5, a6, a7, some (.int (b : Nat)), some (intL .own (orbL n t b (min (j + d) p))), p10, a11, a12, a13, a14, a15, a16, a17])
  | 0, j, o10 => ⟨o10, rfl⟩
  | d + 1, j, o10 => by
    obtain ⟨p10, e⟩ := beg_loop B ht hb P hp (a0 := a0) (a1 := a1) (a2 := a2) (a3 := a3) (a4 := a4) (a5 := a5) (a6 := a6) (a7 := a7) (a11 := a11) (a12 := a12) (a13 := a13) (a14 := a14) (a15 := a15) (a16 := a16) (a17 := a17) d (j + 1) (some (tiD (powL n t j)))
    rw [show j + 1 + d = j + (d + 1) by omega] at e
    refine ⟨p10, ?_⟩
    have e1 : ((List.range (d + 1)).map fun i => powL n t (j + i)).map tiD = tiD (powL n t j) :: ((List.range d).map fun i => powL n t (j + 1 + i)).map tiD := by
      rw [List.range_succ_eq_map, List.map_cons, List.map_map, List.map_cons]
      refine congrArg _ (congrArg _ (List.map_congr_left fun i _ => ?_))
      show powL n t (j + (i + 1)) = powL n t (j + 1 + i)
      rw [show j + (i + 1) = j + 1 + i by omega]
    rw [e1]
    have hi : ∀ e9 : Option D, idxE (var 10) (var 8) [a0, a1, a2, a3, a4, a5, a6, a7, some (.int (b : Nat)), e9, some (tiD (powL n t j)), a11, a12, a13, a14, a15, a16, a17] = .ret (.int (orb n t b j : Nat)) := fun _ => idx_eq (var_ti (r := powL n t j) rfl) (var_int rfl) (mem_row B (pow_row B ht j) hb)
    have hc : testE (bin2 (inList true) (idxE (var 10) (var 8)) (var 9)) [a0, a1, a2, a3, a4, a5, a6, a7, some (.int (b : Nat)), some (intL .own (orbL n t b (min j p))), some (tiD (powL n t j)), a11, a12, a13, a14, a15, a16, a17] = .ret (!decide (orb n t b j ∈ orbL n t b (min j p))) := te (bin2_eq (hi _) (y := intL .bor (orbL n t b (min j p))) rfl (notin_intL _ _ _))
    refine loop_nx (e1 := [a0, a1, a2, a3, a4, a5, a6, a7, some (.int (b : Nat)), some (intL .own (orbL n t b (min j p))), some (tiD (powL n t j)), a11, a12, a13, a14, a15, a16, a17]) (e2 := [a0, a1, a2, a3, a4, a5, a6, a7, some (.int (b : Nat)), some (intL .own (orbL n t b (min (j + 1) p))), some (tiD (powL n t j)), a11, a12, a13, a14, a15, a16, a17]) rfl ?_ e
    by_cases c : j < p
    · have hm : orb n t b j ∉ orbL n t b (min j p) := fun h => by
        obtain ⟨i, h1, h2⟩ := orbL_mem.mp h
        exact orb_ne B ht hb P (show i < j by omega) c h2
      rw [decide_eq_false hm] at hc
      refine if_t hc ((app_int rfl (hi _) (by rw [orbL_len]; omega)).trans ?_)
      rw [show min j p = j by omega, show min (j + 1) p = j + 1 by omega, orbL_succ]; rfl
    · have hm : orb n t b j ∈ orbL n t b (min j p) := by
        have h1 := P.one
        rw [show min j p = p by omega]
        exact orbL_mem.mpr ⟨j % p, Nat.mod_lt _ (by omega), (orb_mod B ht hb P j).symm⟩
      rw [decide_eq_true hm] at hc
      refine if_f hc ?_
      rw [show min j p = p by omega, show min (j + 1) p = p by omega]; rfl
/-! ### later by some leads -/
theorem late_first (B : BF n) (w : MethW n cs ks l) (O : Ord n (turnL n cs l) m) (hb : b < n) : (((List.range m).filter fun i => decide (orb n (turnL n cs l) b i = k)) = [] ∧ lbD (methD n cs ks) b k = .non) ∨ ∃ i I, ((List.range m).filter fun i => decide (orb n (turnL n cs l) b i = k)) = i :: I ∧ lbD (methD n cs ks) b k = .int (i : Nat) ∧ i < m ∧ orb n (turnL n cs l) b i = k := by
  have hT := turn_row B (cs := cs) (c := l)
  obtain ⟨p, hp, P, e, _, _⟩ := pl_ok B w O hb
  have h1 := P.one
  unfold lbD
  rw [e]
  by_cases c : k ∈ orbL n (turnL n cs l) b p
  · rw [if_pos c]
    obtain ⟨i, hi, ei⟩ := orbL_mem.mp c
    right
    have him : i < m := by omega
    have hin : i ∈ (List.range m).filter fun i => decide (orb n (turnL n cs l) b i = k) := List.mem_filter.mpr ⟨List.mem_range.mpr him, decide_eq_true ei⟩
    cases ef : (List.range m).filter fun i => decide (orb n (turnL n cs l) b i = k) with
    | nil => rw [ef] at hin; cases hin
    | cons j J =>
      have hj : j ∈ (List.range m).filter fun i => decide (orb n (turnL n cs l) b i = k) := by rw [ef]; exact List.mem_cons_self
      obtain ⟨hj1, hj2⟩ := List.mem_filter.mp hj
      have hj2 : orb n (turnL n cs l) b j = k := of_decide_eq_true hj2
      have hji : j ≤ i := by
        have hs : ((List.range m).filter fun i => decide (orb n (turnL n cs l) b i = k)).Pairwise (· < ·) := List.Pairwise.filter _ List.pairwise_lt_range
        rw [ef] at hs hin
        rcases List.mem_cons.mp hin with rfl | hin
        · exact Nat.le_refl _
        · exact Nat.le_of_lt ((List.pairwise_cons.mp hs).1 i hin)
      have hjp : j < p := by omega
      refine ⟨j, J, rfl, ?_, List.mem_range.mp hj1, hj2⟩
      rw [← hj2, orbL_idx B hT hb P hjp]
  · rw [if_neg c]
    left
    refine ⟨List.filter_eq_nil_iff.mpr fun i _ h => c ?_, rfl⟩
    have hi := of_decide_eq_true h
    rw [orb_mod B hT hb P] at hi
    exact orbL_mem.mpr ⟨i % p, Nat.mod_lt _ (by omega), hi⟩
theorem work_pR (B : BF n) (h : cs.getLast? = some l) : workN n m (turnL n cs l) (leadR n cs) b = (List.range (m * cs.length)).map fun j => pR n cs j b := by
  have hx : cs ≠ [] := by intro e; rw [e] at h; cases h
  unfold workN leadR
  rw [sq_turn h, crows_sq B hx, List.map_map]; rfl
theorem rot_map (f : Nat → Nat) (M d : Nat) (hd : d ≤ M) (hf : ∀ i, f (i + M) = f i) : ((List.range M).map f).drop d ++ ((List.range M).map f).take d = (List.range M).map fun i => f (d + i) := by
  refine List.ext_getElem (by simp; omega) fun i h1 h2 => ?_
  rw [List.length_map, List.length_range] at h2
  rw [List.getElem_map, List.getElem_range]
  by_cases c : i < M - d
  · rw [List.getElem_append_left (by simp; omega), List.getElem_drop, List.getElem_map, List.getElem_range]
  · rw [List.getElem_append_right (by simp; omega), List.getElem_take, List.getElem_map, List.getElem_range]
    have : d + i = (i - (M - d)) + M := by omega
    rw [this, hf]
    congr 1
    simp
/-- the work, begun at another lead, is the work of the bell that stands there -/
theorem work_rot (B : BF n) (w : MethW n cs ks l) (O : Ord n (turnL n cs l) m) (hb : b < n) {i : Nat} (hi : i ≤ m) (e : orb n (turnL n cs l) b i = k) : (workN n m (turnL n cs l) (leadR n cs) b).drop (i * cs.length) ++ (workN n m (turnL n cs l) (leadR n cs) b).take (i * cs.length) = workN n m (turnL n cs l) (leadR n cs) k := by
  have O2 := O
  rw [sq_turn w.last] at O2 e
  rw [work_pR B w.last, work_pR B w.last, rot_map _ _ _ (Nat.mul_le_mul_right _ hi) fun j => by unfold pR; rw [sq_per B O2]]
  refine List.map_congr_left fun j _ => ?_
  unfold pR
  rw [sq_mul B, pos_comp B (pow_row B (sq_row B _) i) (sq_row B j) hb]
  show pos (sq n cs j) (orb n (sq n cs cs.length) b i) = _
  rw [e]
end
end My

set_option Elab.async false
set_option linter.all false
set_option maxRecDepth 100000
set_option maxHeartbeats 1000000
namespace My
open PySem PySem.Spec PyProof.Rows L2 Dn
/-! ## k24: the walk of `_law_bells_right` -/
theorem and_tt' {a b : Dn.Env → T Bool} {env : Dn.Env} {t : T Bool} (h : a env = .ret true) (h2 : b env = t) : andT a b env = t := T.bind_eq h ((if_pos rfl).trans h2)
theorem and_ff {a b : Dn.Env → T Bool} {env : Dn.Env} (h : a env = .ret false) : andT a b env = .ret false := T.bind_eq h (if_neg Bool.false_ne_true)
theorem dd_len {α : Type} [DecidableEq α] : ∀ l : List α, (ddL l).length ≤ l.length
  | [] => Nat.le_refl _
  | x :: l => by
    have := dd_len l
    unfold ddL
    split
    · rw [List.length_cons]; omega
    · rw [List.length_cons, List.length_cons]; omega
theorem mul2b (f : Fl) (a b : D) : D.mulT (.lst f [.lst .bor [a, b]]) (.int 2) = .ret (.lst .bor [.lst .bor [a, b], .lst .bor [a, b]]) := rfl
theorem mul1 (f : Fl) (a : List D) : D.mulT (.lst f [.lst .own a]) (.int 2) = .ret (.lst .bor [.lst .own a, .lst .own a]) := rfl
theorem mul_int {a b : Int} (h : -(2 ^ 64) < b ∧ b < 2 ^ 64) : D.mulT (.int a) (.int b) = .ret (.int (a * b)) := if_pos h
theorem newL_nat (I : List Nat) : newL (I.map fun i : Nat => D.int i) = intL .own I := by
  have hf : (I.map fun i : Nat => D.int i).all flatD = true := by
    rw [List.all_eq_true]
    intro d hd
    obtain ⟨i, _, rfl⟩ := List.mem_map.mp hd
    rfl
  unfold newL
  rw [hf]; rfl
theorem cut_a {α : Type} (xs : List α) {k : Nat} (h : k ≤ xs.length) : cutL xs (some (k : Nat)) none = xs.drop k := by
  unfold cutL
  rw [HT.sIx_nat, sIx_none, Nat.min_eq_left h, List.take_of_length_le (Nat.le_of_eq List.length_drop)]
theorem cut_z {α : Type} (xs : List α) {k : Nat} (h : k ≤ xs.length) : cutL xs none (some (k : Nat)) = xs.take k := by
  unfold cutL
  rw [HT.sIx_nat, sIx_none, Nat.min_eq_left h, List.drop_zero, Nat.sub_zero]
theorem cutI_from (f : Fl) (I : List Nat) {k : Nat} (h : k ≤ I.length) : D.cut (intL f I) (some (k : Nat)) none = .ret (intL .own (I.drop k)) := by
  show T.ret (newL (cutL (I.map fun i : Nat => D.int i) (some (k : Nat)) none)) = _
  rw [cut_a _ (by rw [List.length_map]; exact h), ← List.map_drop, newL_nat]
theorem cutI_to (f : Fl) (I : List Nat) {k : Nat} (h : k ≤ I.length) : D.cut (intL f I) none (some (k : Nat)) = .ret (intL .own (I.take k)) := by
  show T.ret (newL (cutL (I.map fun i : Nat => D.int i) none (some (k : Nat)))) = _
  rw [cut_z _ (by rw [List.length_map]; exact h), ← List.map_take, newL_nat]
theorem dok_intL (k : Nat) (f : Fl) (I : List Nat) : dok (k + 1) (intL f I) = true := by
  unfold intL
  rw [dok, ti_of]
  exact dok_ints k _
theorem ne_intL (f g : Fl) {I J : List Nat} (h : I = J) : D.ne (intL f I) (intL g J) = .ret (.bl false) := by
  subst h
  have e : eqvL (I.map fun i : Nat => D.int i) (I.map fun i : Nat => D.int i) = true := by
    induction I with
    | nil => rfl
    | cons i I ih => rw [List.map_cons, eqvL, ih, D.eqv, beq_self_eq_true]; rfl
  unfold D.ne
  rw [if_pos ⟨dok_intL 63 f I, dok_intL 63 g I⟩]
  unfold intL
  rw [D.eqv, e]; rfl
theorem eq_nat (a b : Nat) : D.eq (.int (a : Nat)) (.int (b : Nat)) = .ret (.bl (decide (a = b))) := by
  rw [Dn.eq_int]
  by_cases c : a = b
  · rw [c, decide_eq_true rfl, beq_self_eq_true]
  · rw [decide_eq_false c, beq_eq_false_iff_ne.mpr (by omega)]
theorem fit_intL {f : Fl} {I : List Nat} (h : ∀ i ∈ I, i < 1000) (k : Nat) : fitD (k + 1) (intL f I) = true ∧ costD (intL f I) = 42 * I.length := by
  obtain ⟨a, b⟩ := fit_ints h k
  unfold intL
  exact ⟨by rw [fitD]; exact a, by rw [costD, b]⟩
theorem fi_pair {f g g2 : Fl} {I J : List Nat} (h1 : ∀ i ∈ I, i < 1000) (h2 : ∀ i ∈ J, i < 1000) (l1 : I.length ≤ 100) (l2 : J.length ≤ 100) : Fi (.lst f [intL g I, intL g2 J]) := by
  obtain ⟨a1, a2⟩ := fit_intL (f := g) h1 61
  obtain ⟨b1, b2⟩ := fit_intL (f := g2) h2 61
  refine ⟨?_, ?_⟩
  · rw [fitD, fitL, fitL, fitL, a1, b1]; rfl
  · rw [costD, costL, costL, costL]; omega
theorem ok_pair {f g g2 : Fl} {I J : List Nat} (h1 : ∀ i ∈ I, i < 1000) (h2 : ∀ i ∈ J, i < 1000) (l1 : I.length ≤ 100) (l2 : J.length ≤ 100) : reprOk (.lst f [intL g I, intL g2 J]) = true := by
  obtain ⟨a1, a2⟩ := fit_intL (f := g) h1 62
  obtain ⟨b1, b2⟩ := fit_intL (f := g2) h2 62
  unfold reprOk
  rw [fitD, fitL, fitL, fitL, a1, b1, costD, costL, costL, costL, decide_eq_true (by omega)]; rfl
theorem two_of {a b : D} (ha : Fi a) (hb : Fi b) : ∀ d ∈ [a, b], Fi d := fun d hd => by
  simp only [List.mem_cons, List.not_mem_nil, or_false] at hd
  rcases hd with rfl | rfl
  · exact ha
  · exact hb
theorem poke2_ok {env : Dn.Env} {a b : List D} (h : env[11]? = some (some (.lst .own [.lst .own a, .lst .own b]))) (ha : a.length ≤ 1000000) (hb : b.length ≤ 1000000) : poke2S 11 0 1 env = .ret (.nx (env.set 11 none)) := by
  have ho : ownAt env 11 = some [.lst .own a, .lst .own b] := by unfold ownAt; rw [h]
  unfold poke2S
  rw [ho]
  have e : ∀ x : List D, x.length ≤ 1000000 → okL (.lst .own x) = true := fun x h => decide_eq_true h
  exact T.bind_eq rfl (if_pos ⟨e a ha, e b hb⟩)
section
variable {n m : Nat} {cs ks rs : List (List Int)} {r s t c l : List Int}
def wkD (n : Nat) (rs : List (List Int)) : D := .lst .own ((List.range n).map fun b => intL .own (rs.map fun r => pos r b))
def lotsL (n : Nat) (cs ks : List (List Int)) (L0 : List Nat) : List (List Int) := L0.map fun b => lotL (plF (methD n cs ks) b)
theorem ix_wk {b : Nat} {env : Dn.Env} {i : Dn.Env → T D} (e : env[7]? = some (some (wkD n rs))) (hi : i env = .ret (.int (b : Nat))) (hb : b < n) : bin2 D.ix (var 7) i env = .ret (intL .bor (rs.map fun r => pos r b)) := by
  refine bin2_eq (x := .lst .bor ((List.range n).map fun b => intL .own (rs.map fun r => pos r b))) (by unfold var; rw [e]; rfl) hi ?_
  show (T.ofO (atI ((List.range n).map fun b => intL .own (rs.map fun r => pos r b)) (b : Int))).bind _ = _
  rw [Dn.atI_nat _ b (by rw [List.length_map, List.length_range]; exact hb), List.getElem?_map, List.getElem?_range hb]; rfl
structure Wk (n m : Nat) (cs ks rs : List (List Int)) (l : List Int) : Prop where
  row : ∀ r ∈ rs, Row n r
  len : rs.length = m * cs.length
  few : rs.length ≤ 80
  ord : Ord n (turnL n cs l) m
  work : ∀ b, b < n → f_work [methD n cs ks, .int (b : Nat)] = .ret (intL .own (rs.map fun r => pos r b))
  rot : ∀ b k i, b < n → i ≤ m → orb n (turnL n cs l) b i = k → (rs.map fun r => pos r b).drop (i * cs.length) ++ (rs.map fun r => pos r b).take (i * cs.length) = rs.map fun r => pos r k
theorem wk_of (B : BF n) (w : MethW n cs ks l) (hl12 : cs.length ≤ 12) (O : Ord n (turnL n cs l) m) : Wk n m cs ks (crowsL n m (turnL n cs l) (leadR n cs)) l where
  row := fun r hr => by
    obtain ⟨h, hh, hr⟩ := List.mem_flatMap.mp hr
    obtain ⟨q, hq, rfl⟩ := List.mem_map.mp hr
    exact comp_row (headsL_row B (turn_row B) h hh) (leadR_row B q hq)
  len := by rw [crows_len, leadR_len (w_ne w)]
  few := by
    have h6 := O.six
    have := Nat.mul_le_mul h6 hl12
    rw [crows_len, leadR_len (w_ne w)]; omega
  ord := O
  work := fun b hb => work_ok B w O hb
  rot := fun b k i hb hi e => work_rot B w O hb hi e
theorem pos_small (B : BF n) (W : Wk n m cs ks rs l) {b : Nat} (hb : b < n) : ∀ i ∈ rs.map fun r => pos r b, i < 1000 := fun i hi => by
  obtain ⟨r, hr, rfl⟩ := List.mem_map.mp hi
  have := pos_lt B (W.row r hr) hb
  have := B.hi
  omega
theorem pl_small (B : BF n) (w : MethW n cs ks l) (O : Ord n (turnL n cs l) m) {b : Nat} (hb : b < n) : (∀ i ∈ plF (methD n cs ks) b, i < n) ∧ (plF (methD n cs ks) b).length ≤ 6 := by
  have h6 := O.six
  obtain ⟨p, hp, P, e, _, _⟩ := pl_ok B w O hb
  rw [e]
  refine ⟨fun i hi => ?_, by rw [orbL_len]; omega⟩
  obtain ⟨j, _, rfl⟩ := orbL_mem.mp hi
  exact orb_lt B (turn_row B) hb j
theorem lot_small (B : BF n) (w : MethW n cs ks l) (O : Ord n (turnL n cs l) m) {b : Nat} (hb : b < n) : Small (lotL (plF (methD n cs ks) b)) := by
  obtain ⟨h1, h2⟩ := pl_small B w O hb
  have hp : (lotL (plF (methD n cs ks) b)).Perm ((plF (methD n cs ks) b).map fun i : Nat => (i : Int)) := isort_perm _
  have hn := B.hi
  refine ⟨?_, fun x hx => ?_⟩
  · rw [hp.length_eq, List.length_map]; omega
  · obtain ⟨i, hi, rfl⟩ := List.mem_map.mp (hp.mem_iff.mp hx)
    have := h1 i hi
    omega
abbrev bodyL : SD := (seqS (setS 9 (callN lstD args0)) (seqS (forS (srcE false (var 3)) (tgN 10) (ifS (testE (bin2 (inList true) (idxE (var 10) (var 8)) (var 9))) (appendS 9 (idxE (var 10) (var 8))) skipS)) (seqS (setS 11 (callN lstD (argsN (callN (callF 2 f_work) (argsN (var 1) (argsN (var 8) args0))) (argsN (callN (callF 2 f_lead_places) (argsN (var 1) (argsN (var 8) args0))) args0)))) (seqS (ifS (testE (bin2 D.ne (callN (one D.reprX) (argsN (callN lstD (argsN (var 11) (argsN (callN lstD (argsN (callN (callP [1, 0] 2 f_work) (argsN (var 8) (argsN (var 1) args0))) (argsN (callN (callP [1, 0] 2 f_lead_places) (argsN (var 8) (argsN (var 1) args0))) args0))) args0))) args0)) (callN (one D.reprX) (argsN (bin2 D.mulT (callN lstD (argsN (callN lstD (argsN (bin2 D.ix (var 7) (var 8)) (argsN (var 9) args0))) args0)) (con (.int 2))) args0)))) (retS (con (.bl false))) skipS) (seqS (poke2S 11 0 1) (seqS (ifS (testE (bin2 D.ne (callN (one D.reprX) (argsN (callN lstD (argsN (callN (callF 2 f_work) (argsN (var 1) (argsN (var 8) args0))) (argsN (callN (callF 2 f_lead_places) (argsN (var 1) (argsN (var 8) args0))) args0))) args0)) (callN (one D.reprX) (argsN (callN lstD (argsN (bin2 D.ix (var 7) (var 8)) (argsN (var 9) args0))) args0)))) (retS (con (.bl false))) skipS) (appendS 6 (callN (one D.toTup) (argsN (callN (one D.sortedX) (argsN (var 9) args0)) args0)))))))))
abbrev tailT : SD := (seqS (setS 14 (compE (srcR (rg1 (callN (one D.len) (argsN (var 3) args0)))) (tgN 16) (testE (bin2 D.eq (idxE (bin2 D.ix (var 3) (var 16)) (var 8)) (var 13))) (var 16) [16])) (seqS (setS 15 (ifE (testE (bin2 D.ne (var 14) (callN lstD args0))) (bin2 D.ix (var 14) (con (.int 0))) (con .non))) (seqS (ifS (testE (bin2 D.ne (callN (one D.reprX) (argsN (callN lstD (argsN (callN (callF 3 f_leads_behind) (argsN (var 1) (argsN (var 8) (argsN (var 13) args0)))) (argsN (callN (callP [2, 1, 0] 3 f_leads_behind) (argsN (var 13) (argsN (var 8) (argsN (var 1) args0)))) args0))) args0)) (callN (one D.reprX) (argsN (callN lstD (argsN (var 15) (argsN (var 15) args0))) args0)))) (retS (con (.bl false))) skipS) (ifS (andT (testE (bin2 notNonD (var 15) (con .non))) (testE (bin2 D.ne (bin2 D.add (cutE (bin2 D.ix (var 7) (var 8)) (partE (bin2 D.mulT (var 15) (var 4))) noP) (cutE (bin2 D.ix (var 7) (var 8)) noP (partE (bin2 D.mulT (var 15) (var 4))))) (bin2 D.ix (var 7) (var 13))))) (retS (con (.bl false))) skipS))))
abbrev bodyT : SD := (seqS (parS [8, 13] (argsN (callN (callF 2 f__law_draw) (argsN (var 0) (argsN (var 5) args0))) (argsN (callN (callF 2 f__law_draw) (argsN (var 0) (argsN (var 5) args0))) args0))) (seqS (setS 14 (compE (srcR (rg1 (callN (one D.len) (argsN (var 3) args0)))) (tgN 16) (testE (bin2 D.eq (idxE (bin2 D.ix (var 3) (var 16)) (var 8)) (var 13))) (var 16) [16])) (seqS (setS 15 (ifE (testE (bin2 D.ne (var 14) (callN lstD args0))) (bin2 D.ix (var 14) (con (.int 0))) (con .non))) (seqS (ifS (testE (bin2 D.ne (callN (one D.reprX) (argsN (callN lstD (argsN (callN (callF 3 f_leads_behind) (argsN (var 1) (argsN (var 8) (argsN (var 13) args0)))) (argsN (callN (callP [2, 1, 0] 3 f_leads_behind) (argsN (var 13) (argsN (var 8) (argsN (var 1) args0)))) args0))) args0)) (callN (one D.reprX) (argsN (callN lstD (argsN (var 15) (argsN (var 15) args0))) args0)))) (retS (con (.bl false))) skipS) (ifS (andT (testE (bin2 notNonD (var 15) (con .non))) (testE (bin2 D.ne (bin2 D.add (cutE (bin2 D.ix (var 7) (var 8)) (partE (bin2 D.mulT (var 15) (var 4))) noP) (cutE (bin2 D.ix (var 7) (var 8)) noP (partE (bin2 D.mulT (var 15) (var 4))))) (bin2 D.ix (var 7) (var 13))))) (retS (con (.bl false))) skipS)))))
theorem lots_body (B : BF n) (w : MethW n cs ks l) (W : Wk n m cs ks rs l) {b : Nat} (hb : b < n) (L0 : List Nat) (hD : L0.length ≤ 100) {a8 a9 a10 a11 a12 a13 a14 a15 a16 a17 : Option Dn.D} : ∃ p9 p10, bodyL [some .pot, some (methD n cs ks), some (rowD .frz rs), some (rowD .frz (headsL n m (turnL n cs l))), some (.int (cs.length : Nat)), some (.int (n : Nat)), some (rowD .own (lotsL n cs ks L0)), some (wkD n rs), some (.int (b : Nat)), a9, a10, a11, a12, a13, a14, a15, a16, a17] = .ret (.nx [some .pot, some (methD n cs ks), some (rowD .frz rs), some (rowD .frz (headsL n m (turnL n cs l))), some (.int (cs.length : Nat)), some (.int (n : Nat)), some (rowD .own (lotsL n cs ks (L0 ++ [b]))), some (wkD n rs), some (.int (b : Nat)), p9, p10, none, a12, a13, a14, a15, a16, a17]) := by
  have h6 := W.ord.six
  have hT := turn_row B (cs := cs) (c := l)
  have hw := W.work b hb
  have hfw := W.few
  obtain ⟨p, hp, P, ep, _, hpl⟩ := pl_ok B w W.ord hb
  have h1 := pos_small B W hb
  obtain ⟨h2', h3⟩ := pl_small B w W.ord hb
  have hn := B.hi
  have h2 : ∀ i ∈ plF (methD n cs ks) b, i < 1000 := fun i hi => by have := h2' i hi; omega
  obtain ⟨p10, e⟩ := beg_loop B hT hb P (by omega) (a0 := some .pot) (a1 := some (methD n cs ks)) (a2 := some (rowD .frz rs)) (a3 := some (rowD .frz (headsL n m (turnL n cs l)))) (a4 := some (.int (cs.length : Nat))) (a5 := some (.int (n : Nat))) (a6 := some (rowD .own (lotsL n cs ks L0))) (a7 := some (wkD n rs)) (a11 := a11) (a12 := a12) (a13 := a13) (a14 := a14) (a15 := a15) (a16 := a16) (a17 := a17) m 0 a10
  have e0 : ((List.range m).map fun i => powL n (turnL n cs l) (0 + i)) = headsL n m (turnL n cs l) := List.map_congr_left fun i _ => by rw [Nat.zero_add]
  rw [e0, Nat.zero_add, show min m p = p by omega, show min 0 p = 0 by omega, ← ep] at e
  have hbeg : forS (srcE false (var 3)) (tgN 10) begS [some .pot, some (methD n cs ks), some (rowD .frz rs), some (rowD .frz (headsL n m (turnL n cs l))), some (.int (cs.length : Nat)), some (.int (n : Nat)), some (rowD .own (lotsL n cs ks L0)), some (wkD n rs), some (.int (b : Nat)), some (intL .own []), a10, a11, a12, a13, a14, a15, a16, a17] = .ret (.nx [some .pot, some (methD n cs ks), some (rowD .frz rs), some (rowD .frz (headsL n m (turnL n cs l))), some (.int (cs.length : Nat)), some (.int (n : Nat)), some (rowD .own (lotsL n cs ks L0)), some (wkD n rs), some (.int (b : Nat)), some (intL .own (plF (methD n cs ks) b)), p10, a11, a12, a13, a14, a15, a16, a17]) := for_eq (src_row (f := .frz) (.inl (by decide)) (var_frz rfl)) e
  refine ⟨some (intL .own (plF (methD n cs ks) b)), p10, ?_⟩
  refine seqS_nx (e := [some .pot, some (methD n cs ks), some (rowD .frz rs), some (rowD .frz (headsL n m (turnL n cs l))), some (.int (cs.length : Nat)), some (.int (n : Nat)), some (rowD .own (lotsL n cs ks L0)), some (wkD n rs), some (.int (b : Nat)), some (intL .own []), a10, a11, a12, a13, a14, a15, a16, a17]) (setS_eq (d := intL .own []) rfl rfl) ?_
  refine seqS_nx (e := [some .pot, some (methD n cs ks), some (rowD .frz rs), some (rowD .frz (headsL n m (turnL n cs l))), some (.int (cs.length : Nat)), some (.int (n : Nat)), some (rowD .own (lotsL n cs ks L0)), some (wkD n rs), some (.int (b : Nat)), some (intL .own (plF (methD n cs ks) b)), p10, a11, a12, a13, a14, a15, a16, a17]) hbeg ?_
  refine seqS_nx (e := [some .pot, some (methD n cs ks), some (rowD .frz rs), some (rowD .frz (headsL n m (turnL n cs l))), some (.int (cs.length : Nat)), some (.int (n : Nat)), some (rowD .own (lotsL n cs ks L0)), some (wkD n rs), some (.int (b : Nat)), some (intL .own (plF (methD n cs ks) b)), p10, some (.lst .own [intL .own (rs.map fun r => pos r b), intL .own (plF (methD n cs ks) b)]), a12, a13, a14, a15, a16, a17]) (setS_eq (d := .lst .own [intL .own (rs.map fun r => pos r b), intL .own (plF (methD n cs ks) b)]) (callN_eq (argsN_eq (callN_eq (argsN_eq (var_M (n := n) (cs := cs) (ks := ks) rfl) (argsN_eq (var_int rfl) args0_eq)) (cF hw rfl)) (argsN_eq (callN_eq (argsN_eq (var_M (n := n) (cs := cs) (ks := ks) rfl) (argsN_eq (var_int rfl) args0_eq)) (cF hpl rfl)) args0_eq)) rfl) rfl) ?_
  refine seqS_nx (e := [some .pot, some (methD n cs ks), some (rowD .frz rs), some (rowD .frz (headsL n m (turnL n cs l))), some (.int (cs.length : Nat)), some (.int (n : Nat)), some (rowD .own (lotsL n cs ks L0)), some (wkD n rs), some (.int (b : Nat)), some (intL .own (plF (methD n cs ks) b)), p10, some (.lst .own [intL .own (rs.map fun r => pos r b), intL .own (plF (methD n cs ks) b)]), a12, a13, a14, a15, a16, a17]) (if_f (reprNe (x := .lst .bor [.lst .bor [intL .own (rs.map fun r => pos r b), intL .own (plF (methD n cs ks) b)], .lst .own [intL .own (rs.map fun r => pos r b), intL .own (plF (methD n cs ks) b)]]) (y := .lst .bor [.lst .bor [intL .bor (rs.map fun r => pos r b), intL .bor (plF (methD n cs ks) b)], .lst .bor [intL .bor (rs.map fun r => pos r b), intL .bor (plF (methD n cs ks) b)]]) (callN_eq (argsN_eq (x := .lst .bor [intL .own (rs.map fun r => pos r b), intL .own (plF (methD n cs ks) b)]) rfl (argsN_eq (x := .lst .own [intL .own (rs.map fun r => pos r b), intL .own (plF (methD n cs ks) b)]) (callN_eq (argsN_eq (callN_eq (argsN_eq (var_int rfl) (argsN_eq (var_M (n := n) (cs := cs) (ks := ks) rfl) args0_eq)) (cP rfl hw rfl rfl)) (argsN_eq (callN_eq (argsN_eq (var_int rfl) (argsN_eq (var_M (n := n) (cs := cs) (ks := ks) rfl) args0_eq)) (cP rfl hpl rfl rfl)) args0_eq)) rfl) args0_eq)) rfl) (bin2_eq (x := .lst .bor [.lst .bor [intL .bor (rs.map fun r => pos r b), intL .bor (plF (methD n cs ks) b)]]) (callN_eq (argsN_eq (x := .lst .bor [intL .bor (rs.map fun r => pos r b), intL .bor (plF (methD n cs ks) b)]) (callN_eq (argsN_eq (ix_wk rfl (var_int rfl) hb) (argsN_eq (x := intL .bor (plF (methD n cs ks) b)) rfl args0_eq)) rfl) args0_eq) rfl) con_eq (mul2b _ _ _)) rfl rfl (fi_ok (two_of (fi_pair h1 h2 (by rw [List.length_map]; omega) (by omega)) (fi_pair h1 h2 (by rw [List.length_map]; omega) (by omega))) (by show 2 ≤ 8; decide)) (fi_ok (two_of (fi_pair h1 h2 (by rw [List.length_map]; omega) (by omega)) (fi_pair h1 h2 (by rw [List.length_map]; omega) (by omega))) (by show 2 ≤ 8; decide)) (toP_lst (toPL_cons (toP_lst (toPL_cons (toP_lst rfl) (toPL_cons (toP_lst rfl) rfl))) (toPL_cons (toP_lst (toPL_cons (toP_lst rfl) (toPL_cons (toP_lst rfl) rfl))) rfl)))) skip_eq) ?_
  refine seqS_nx (e := [some .pot, some (methD n cs ks), some (rowD .frz rs), some (rowD .frz (headsL n m (turnL n cs l))), some (.int (cs.length : Nat)), some (.int (n : Nat)), some (rowD .own (lotsL n cs ks L0)), some (wkD n rs), some (.int (b : Nat)), some (intL .own (plF (methD n cs ks) b)), p10, none, a12, a13, a14, a15, a16, a17]) (poke2_ok rfl (by rw [List.length_map, List.length_map]; omega) (by rw [List.length_map]; omega)) ?_
  refine seqS_nx (e := [some .pot, some (methD n cs ks), some (rowD .frz rs), some (rowD .frz (headsL n m (turnL n cs l))), some (.int (cs.length : Nat)), some (.int (n : Nat)), some (rowD .own (lotsL n cs ks L0)), some (wkD n rs), some (.int (b : Nat)), some (intL .own (plF (methD n cs ks) b)), p10, none, a12, a13, a14, a15, a16, a17]) (if_f (reprNe (x := .lst .own [intL .own (rs.map fun r => pos r b), intL .own (plF (methD n cs ks) b)]) (y := .lst .bor [intL .bor (rs.map fun r => pos r b), intL .bor (plF (methD n cs ks) b)]) (callN_eq (argsN_eq (callN_eq (argsN_eq (var_M (n := n) (cs := cs) (ks := ks) rfl) (argsN_eq (var_int rfl) args0_eq)) (cF hw rfl)) (argsN_eq (callN_eq (argsN_eq (var_M (n := n) (cs := cs) (ks := ks) rfl) (argsN_eq (var_int rfl) args0_eq)) (cF hpl rfl)) args0_eq)) rfl) (callN_eq (argsN_eq (ix_wk rfl (var_int rfl) hb) (argsN_eq (x := intL .bor (plF (methD n cs ks) b)) rfl args0_eq)) rfl) rfl rfl (ok_pair h1 h2 (by rw [List.length_map]; omega) (by omega)) (ok_pair h1 h2 (by rw [List.length_map]; omega) (by omega)) (toP_lst (toPL_cons (toP_lst rfl) (toPL_cons (toP_lst rfl) rfl)))) skip_eq) ?_
  refine (app_eq (d := tiD (lotL (plF (methD n cs ks) b))) (xs := (lotsL n cs ks L0).map tiD) rfl (lot_eq (I := plF (methD n cs ks) b) (f := .bor) rfl) rfl (by rw [List.length_map]; unfold lotsL; rw [List.length_map]; omega)).trans ?_
  have e9 : lotsL n cs ks (L0 ++ [b]) = lotsL n cs ks L0 ++ [lotL (plF (methD n cs ks) b)] := by unfold lotsL; rw [List.map_append]; rfl
  rw [e9]
  unfold rowD
  rw [List.map_append (l₂ := [lotL (plF (methD n cs ks) b)])]; rfl
theorem lots_loop (B : BF n) (w : MethW n cs ks l) (W : Wk n m cs ks rs l) : ∀ (J L0 : List Nat) (a8 a9 a10 a11 a12 a13 a14 a15 a16 a17 : Option Dn.D), (∀ b ∈ J, b < n) → L0.length + J.length ≤ 100 → ∃ p8 p9 p10 p11, loopS (tgN 8) bodyL (J.map fun i : Nat => D.int i) [some .pot, some (methD n cs ks), some (rowD .frz rs), some (rowD .frz (headsL n m (turnL n cs l))), some (.int (cs.length : Nat)), some (.int (n : Nat)), some (rowD .own (lotsL n cs ks L0)), some (wkD n rs), a8, a9, a10, a11, a12, a13, a14, a15, a16, a17] = .ret (.nx [some .pot, some (methD n cs ks), some (rowD .frz rs), some (rowD .frz (headsL n m (turnL n cs l))), some (.int (cs.length : Nat)), some (.int (n : Nat)), some (rowD .own (lotsL n cs ks (L0 ++ J))), some (wkD n rs), p8, p9, p10, p11, a12, a13, a14, a15, a16, a17])
  | [], L0, a8, a9, a10, a11, a12, a13, a14, a15, a16, a17, _, _ => ⟨a8, a9, a10, a11, by rw [List.append_nil]; rfl⟩
  | b :: J, L0, a8, a9, a10, a11, a12, a13, a14, a15, a16, a17, hJ, hl => by
    rw [List.length_cons] at hl
    obtain ⟨q9, q10, hb⟩ := lots_body B w W (hJ b List.mem_cons_self) L0 (by omega) (a8 := a8) (a9 := a9) (a10 := a10) (a11 := a11) (a12 := a12) (a13 := a13) (a14 := a14) (a15 := a15) (a16 := a16) (a17 := a17)
    obtain ⟨p8, p9, p10, p11, h⟩ := lots_loop B w W J (L0 ++ [b]) (some (.int (b : Nat))) q9 q10 none a12 a13 a14 a15 a16 a17 (fun x hx => hJ x (List.mem_cons_of_mem _ hx)) (by rw [List.length_append, List.length_singleton]; omega)
    rw [List.append_assoc] at h
    exact ⟨p8, p9, p10, p11, loop_nx (e1 := [some .pot, some (methD n cs ks), some (rowD .frz rs), some (rowD .frz (headsL n m (turnL n cs l))), some (.int (cs.length : Nat)), some (.int (n : Nat)), some (rowD .own (lotsL n cs ks L0)), some (wkD n rs), some (.int (b : Nat)), a9, a10, a11, a12, a13, a14, a15, a16, a17]) rfl hb h⟩
theorem turn_tail (B : BF n) (w : MethW n cs ks l) (W : Wk n m cs ks rs l) {b k : Nat} (hb : b < n) (hk : k < n) (L0 : List Nat) {a8 a9 a10 a11 a12 a13 a14 a15 a16 a17 : Option Dn.D} : ∃ p14 p15, tailT [some .pot, some (methD n cs ks), some (rowD .frz rs), some (rowD .frz (headsL n m (turnL n cs l))), some (.int (cs.length : Nat)), some (.int (n : Nat)), some (rowD .own (lotsL n cs ks L0)), some (wkD n rs), some (.int (b : Nat)), a9, a10, a11, a12, some (.int (k : Nat)), a14, a15, a16, a17] = .ret (.nx [some .pot, some (methD n cs ks), some (rowD .frz rs), some (rowD .frz (headsL n m (turnL n cs l))), some (.int (cs.length : Nat)), some (.int (n : Nat)), some (rowD .own (lotsL n cs ks L0)), some (wkD n rs), some (.int (b : Nat)), a9, a10, a11, a12, some (.int (k : Nat)), p14, p15, a16, a17]) := by
  have h6 := W.ord.six
  have h1 := W.ord.pos
  have hf := w.few
  have hT := turn_row B (cs := cs) (c := l)
  have hbh := behind_ok B w hb hk
  have hhl : (headsL n m (turnL n cs l)).length = m := headsL_len
  have hs14 : setS 14 (compE (srcR (rg1 (callN (one D.len) (argsN (var 3) args0)))) (tgN 16) (testE (bin2 D.eq (idxE (bin2 D.ix (var 3) (var 16)) (var 8)) (var 13))) (var 16) [16]) [some .pot, some (methD n cs ks), some (rowD .frz rs), some (rowD .frz (headsL n m (turnL n cs l))), some (.int (cs.length : Nat)), some (.int (n : Nat)), some (rowD .own (lotsL n cs ks L0)), some (wkD n rs), some (.int (b : Nat)), a9, a10, a11, a12, some (.int (k : Nat)), a14, a15, a16, a17] = .ret (.nx [some .pot, some (methD n cs ks), some (rowD .frz rs), some (rowD .frz (headsL n m (turnL n cs l))), some (.int (cs.length : Nat)), some (.int (n : Nat)), some (rowD .own (lotsL n cs ks L0)), some (wkD n rs), some (.int (b : Nat)), a9, a10, a11, a12, some (.int (k : Nat)), some (intL .own ((List.range m).filter fun i => decide (orb n (turnL n cs l) b i = k))), a15, a16, a17]) := by
    refine setS_eq (d := intL .own ((List.range m).filter fun i => decide (orb n (turnL n cs l) b i = k))) (compFE (fun i => decide (orb n (turnL n cs l) b i = k)) (fun i : Nat => D.int i) (fun i : Nat => D.int i) (I := List.range m) (rg_src (m := m) ((callN_eq (argsN_eq (var_frz rfl) args0_eq) (one_eq len_row)).trans (by rw [hhl])) (by omega)) (by rw [List.length_range]; omega) fun i hi => ⟨?_, var_int (n := (i : Int)) rfl, rfl⟩) rfl
    have hi := List.mem_range.mp hi
    have hat : (headsL n m (turnL n cs l))[i]? = some (powL n (turnL n cs l) i) := by
      unfold headsL
      rw [List.getElem?_map, List.getElem?_range hi]; rfl
    exact te ((bin2_eq (idx_eq (r := powL n (turnL n cs l) i) (bin2_eq (var_frz rfl) (var_int (n := (i : Int)) rfl) (ixR hat)) (var_int rfl) (mem_row B (pow_row B hT i) hb)) (var_int rfl) (eq_nat _ _)))
  have hne : ∀ I : List Nat, D.ne (intL .bor I) (.lst .own []) = .ret (.bl (!I.isEmpty)) := fun I => (ne_nil .bor (xs := I.map fun i : Nat => D.int i) fun d hd => by
    obtain ⟨i, _, rfl⟩ := List.mem_map.mp hd
    exact pl_int _).trans (by cases I <;> rfl)
  rcases late_first (k := k) B w W.ord hb with ⟨e1, e2⟩ | ⟨i, I, e1, e2, hi, eo⟩
  · rw [e1] at hs14
    rw [e2] at hbh
    refine ⟨some (intL .own []), some .non, ?_⟩
    refine seqS_nx hs14 ?_
    refine seqS_nx (e := [some .pot, some (methD n cs ks), some (rowD .frz rs), some (rowD .frz (headsL n m (turnL n cs l))), some (.int (cs.length : Nat)), some (.int (n : Nat)), some (rowD .own (lotsL n cs ks L0)), some (wkD n rs), some (.int (b : Nat)), a9, a10, a11, a12, some (.int (k : Nat)), some (intL .own []), some .non, a16, a17]) (setS_eq (d := .non) (T.bind_eq (te (b := false) (bin2_eq (x := intL .bor []) rfl rfl (hne []))) ((if_neg Bool.false_ne_true).trans rfl)) rfl) ?_
    refine seqS_nx (if_f (reprNe (x := .lst .own [.non, .non]) (y := .lst .own [.non, .non]) (callN_eq (argsN_eq (callN_eq (argsN_eq (var_M (n := n) (cs := cs) (ks := ks) rfl) (argsN_eq (var_int rfl) (argsN_eq (var_int rfl) args0_eq))) (cF hbh rfl)) (argsN_eq (callN_eq (argsN_eq (var_int rfl) (argsN_eq (var_int rfl) (argsN_eq (var_M (n := n) (cs := cs) (ks := ks) rfl) args0_eq))) (cP rfl hbh rfl rfl)) args0_eq)) rfl) (callN_eq (argsN_eq (x := .non) rfl (argsN_eq (x := .non) rfl args0_eq)) rfl) rfl rfl (by decide +kernel) (by decide +kernel) rfl) skip_eq) ?_
    exact if_f (and_ff (te (bin2_eq (x := .non) (y := .non) rfl con_eq rfl))) skip_eq
  · rw [e1] at hs14
    rw [e2] at hbh
    refine ⟨some (intL .own (i :: I)), some (.int (i : Nat)), ?_⟩
    refine seqS_nx hs14 ?_
    refine seqS_nx (e := [some .pot, some (methD n cs ks), some (rowD .frz rs), some (rowD .frz (headsL n m (turnL n cs l))), some (.int (cs.length : Nat)), some (.int (n : Nat)), some (rowD .own (lotsL n cs ks L0)), some (wkD n rs), some (.int (b : Nat)), a9, a10, a11, a12, some (.int (k : Nat)), some (intL .own (i :: I)), some (.int (i : Nat)), a16, a17]) (setS_eq (d := .int (i : Nat)) (T.bind_eq (te (b := true) (bin2_eq (x := intL .bor (i :: I)) rfl rfl (hne (i :: I)))) ((if_pos rfl).trans (bin2_eq (x := intL .bor (i :: I)) rfl con_eq (ixI_at (j := 0) rfl)))) rfl) ?_
    have fI : ∀ d ∈ [Dn.D.int (i : Nat), Dn.D.int (i : Nat)], Fi d := two_of (fi_int (by omega)) (fi_int (by omega))
    refine seqS_nx (if_f (reprNe (x := .lst .own [.int (i : Nat), .int (i : Nat)]) (y := .lst .own [.int (i : Nat), .int (i : Nat)]) (callN_eq (argsN_eq (callN_eq (argsN_eq (var_M (n := n) (cs := cs) (ks := ks) rfl) (argsN_eq (var_int rfl) (argsN_eq (var_int rfl) args0_eq))) (cF hbh rfl)) (argsN_eq (callN_eq (argsN_eq (var_int rfl) (argsN_eq (var_int rfl) (argsN_eq (var_M (n := n) (cs := cs) (ks := ks) rfl) args0_eq))) (cP rfl hbh rfl rfl)) args0_eq)) rfl) (callN_eq (argsN_eq (var_int rfl) (argsN_eq (var_int rfl) args0_eq)) rfl) rfl rfl (fi_ok fI (by show 2 ≤ 8; decide)) (fi_ok fI (by show 2 ≤ 8; decide)) rfl) skip_eq) ?_
    have hmul : ∀ (env : Dn.Env), env[15]? = some (some (.int (i : Nat))) → env[4]? = some (some (.int (cs.length : Nat))) → bin2 D.mulT (var 15) (var 4) env = .ret (.int ((i * cs.length : Nat) : Int)) := fun env h15 h4 => by
      refine bin2_eq (var_int h15) (var_int h4) ?_
      rw [Int.natCast_mul]
      exact mul_int ⟨by omega, by omega⟩
    have hle : i * cs.length ≤ (rs.map fun r => pos r b).length := by
      rw [List.length_map, W.len]
      exact Nat.mul_le_mul_right _ (Nat.le_of_lt hi)
    have hrot := W.rot b k i hb (Nat.le_of_lt hi) eo
    refine if_f (and_tt' (te (b := true) (bin2_eq (x := .int (i : Nat)) (y := .non) (var_int rfl) con_eq rfl)) (te (bin2_eq (bin2_eq (cut_eq (ix_wk rfl (var_int rfl) hb) (part_eq (hmul _ rfl rfl)) noP_eq (cutI_from _ _ hle)) (cut_eq (ix_wk rfl (var_int rfl) hb) noP_eq (part_eq (hmul _ rfl rfl)) (cutI_to _ _ hle)) (add_intL _ _ (by have := W.few; rw [List.length_drop, List.length_take, List.length_map]; omega))) (ix_wk rfl (var_int rfl) hk) (ne_intL _ _ hrot)))) skip_eq
theorem turn_body (B : BF n) (w : MethW n cs ks l) (W : Wk n m cs ks rs l) (L0 : List Nat) {a8 a9 a10 a11 a12 a13 a14 a15 a16 a17 : Option Dn.D} : Hd (bodyT [some .pot, some (methD n cs ks), some (rowD .frz rs), some (rowD .frz (headsL n m (turnL n cs l))), some (.int (cs.length : Nat)), some (.int (n : Nat)), some (rowD .own (lotsL n cs ks L0)), some (wkD n rs), a8, a9, a10, a11, a12, a13, a14, a15, a16, a17]) fun o => ∃ y8 y13 y14 y15, o = .nx [some .pot, some (methD n cs ks), some (rowD .frz rs), some (rowD .frz (headsL n m (turnL n cs l))), some (.int (cs.length : Nat)), some (.int (n : Nat)), some (rowD .own (lotsL n cs ks L0)), some (wkD n rs), y8, a9, a10, a11, a12, y13, y14, y15, a16, a17] := by
  have hn := B.hi
  have hlo := B.lo
  refine kseq (hPar (hArgs ((hCall (xs := [.pot, .int (n : Nat)]) (argsN_eq (var_pot rfl) (argsN_eq (var_int rfl) args0_eq)) (hF (hDraw (m := (n : Nat)) (by omega)))).mono ?_)))
  rintro _ ⟨b, b0, b1, rfl⟩
  obtain ⟨b, rfl⟩ := Int.eq_ofNat_of_zero_le b0
  refine hArgs ((hCall (xs := [.pot, .int (n : Nat)]) (argsN_eq (var_pot rfl) (argsN_eq (var_int rfl) args0_eq)) (hF (hDraw (m := (n : Nat)) (by omega)))).mono ?_)
  rintro _ ⟨k, k0, k1, rfl⟩
  obtain ⟨k, rfl⟩ := Int.eq_ofNat_of_zero_le k0
  refine hArg0 ⟨[some .pot, some (methD n cs ks), some (rowD .frz rs), some (rowD .frz (headsL n m (turnL n cs l))), some (.int (cs.length : Nat)), some (.int (n : Nat)), some (rowD .own (lotsL n cs ks L0)), some (wkD n rs), some (.int (b : Nat)), a9, a10, a11, a12, some (.int (k : Nat)), a14, a15, a16, a17], rfl, _, rfl, ?_⟩
  obtain ⟨p14, p15, h⟩ := turn_tail B w W (b := b) (k := k) (by omega) (by omega) L0 (a8 := a8) (a9 := a9) (a10 := a10) (a11 := a11) (a12 := a12) (a13 := a13) (a14 := a14) (a15 := a15) (a16 := a16) (a17 := a17)
  exact hEq h ⟨_, _, _, _, rfl⟩
theorem bells_ok (B : BF n) (w : MethW n cs ks l) (W : Wk n m cs ks rs l) : Hd (f__law_bells_right [.pot, methD n cs ks, rowD .frz rs, rowD .frz (headsL n m (turnL n cs l))]) fun d => d = .bl true := by
  have hn := B.hi
  have hfw := W.few
  refine hFn ?_
  show Hd (s__law_bells_right [some .pot, some (methD n cs ks), some (rowD .frz rs), some (rowD .frz (headsL n m (turnL n cs l))), none, none, none, none, none, none, none, none, none, none, none, none, none, none]) _
  unfold s__law_bells_right
  let e45 : Dn.Env := [some .pot, some (methD n cs ks), some (rowD .frz rs), some (rowD .frz (headsL n m (turnL n cs l))), some (.int (cs.length : Nat)), some (.int (n : Nat)), none, none, none, none, none, none, none, none, none, none, none, none]
  refine kseqE (e := e45) (T.bind_eq (argsN_eq (callN_eq (argsN_eq (bin2_eq (var_M rfl) con_eq mix2) args0_eq) (one_eq len_ts)) (argsN_eq (bin2_eq (var_M rfl) con_eq mix1) args0_eq)) rfl) ?_
  have hwk : compE (srcR (rg1 (var 5))) (tgN 8) yesT (compE (srcE true (var 2)) (tgN 17) yesT (idxE (var 17) (var 8)) [17]) [8] e45 = .ret (wkD n rs) := by
    have e := compFE (α := Nat) (src := srcR (rg1 (var 5))) (v := 8) (cond := yesT) (elt := compE (srcE true (var 2)) (tgN 17) yesT (idxE (var 17) (var 8)) [17]) (env := e45) (fun _ => true) (fun i : Nat => D.int i) (fun b => intL .own (rs.map fun r => pos r b)) (I := List.range n) (rg_src (m := n) (var_int rfl) (by omega)) (by rw [List.length_range]; omega) fun b hb => ⟨rfl, comp_idx B W.row (List.mem_range.mp hb) (src_row (f := .frz) (.inr rfl) (var_frz rfl)) (by omega) (fun r => var_int (n := (b : Int)) rfl) fun r => var_ti rfl, rfl⟩
    rw [List.filter_eq_self.mpr fun _ _ => rfl] at e
    exact e
  refine kseqE (e := [some .pot, some (methD n cs ks), some (rowD .frz rs), some (rowD .frz (headsL n m (turnL n cs l))), some (.int (cs.length : Nat)), some (.int (n : Nat)), some (rowD .own (lotsL n cs ks [])), some (wkD n rs), none, none, none, none, none, none, none, none, none, none]) (T.bind_eq (argsN_eq (x := rowD .own []) rfl (argsN_eq hwk args0_eq)) rfl) ?_
  obtain ⟨p8, p9, p10, p11, h⟩ := lots_loop B w W (List.range n) [] none none none none none none none none none none (fun b hb => List.mem_range.mp hb) (by rw [List.length_range, List.length_nil]; omega)
  rw [List.nil_append] at h
  refine kseqE (for_eq (rg_src (m := n) (var_int rfl) (by omega)) h) ?_
  have hsw := same_ok B w
  have hlen : (lotsL n cs ks (List.range n)).length < 64 := by unfold lotsL; rw [List.length_map, List.length_range]; omega
  have hss : isort HT.lexLt (ddL (lotsL n cs ks (List.range n))) = swL n (methD n cs ks) := rfl
  have hsm : ∀ r ∈ swL n (methD n cs ks), Small r := fun r hr => by
    have h1 : r ∈ (List.range n).map fun b => lotL (plF (methD n cs ks) b) := (ddL_mem _ _).mp ((isort_perm _).mem_iff.mp hr)
    obtain ⟨b, hb, rfl⟩ := List.mem_map.mp h1
    exact lot_small B w W.ord (List.mem_range.mp hb)
  have hsl : (swL n (methD n cs ks)).length ≤ 6 := by
    have h1 : (swL n (methD n cs ks)).length = (ddL ((List.range n).map fun b => lotL (plF (methD n cs ks) b))).length := (isort_perm _).length_eq
    have h2 := dd_len ((List.range n).map fun b => lotL (plF (methD n cs ks) b))
    rw [List.length_map, List.length_range] at h2
    omega
  have fsw : ∀ f : Fl, Fi (rowD f (swL n (methD n cs ks))) := fun f => by
    have := cost_rowD (f := f) hsm
    exact ⟨fit_rowD (n := 61) hsm, by omega⟩
  refine kseqE (if_f (reprNe (x := .lst .own [rowD .own (swL n (methD n cs ks)), rowD .own (swL n (methD n cs ks))]) (y := .lst .bor [rowD .own (swL n (methD n cs ks)), rowD .own (swL n (methD n cs ks))]) (callN_eq (argsN_eq (callN_eq (argsN_eq (var_M (n := n) (cs := cs) (ks := ks) rfl) args0_eq) (cF hsw rfl)) (argsN_eq (callN_eq (argsN_eq (var_M (n := n) (cs := cs) (ks := ks) rfl) args0_eq) (cP rfl hsw rfl rfl)) args0_eq)) rfl) (bin2_eq (x := .lst .own [rowD .own (swL n (methD n cs ks))]) (callN_eq (argsN_eq (x := rowD .own (swL n (methD n cs ks))) (un1_eq (var_own rfl) ((sortSet_row _ hlen).trans (by rw [hss]))) args0_eq) rfl) con_eq (mul1 _ _)) rfl rfl (fi_ok (two_of (fsw _) (fsw _)) (by show 2 ≤ 8; decide)) (fi_ok (two_of (fsw _) (fsw _)) (by show 2 ≤ 8; decide)) (toP_lst rfl)) skip_eq) ?_
  refine kseq (hFor (hEq (rg_eq con_eq (by decide)) ((hLoop (I := fun e => ∃ y8 y12 y13 y14 y15, e = [some .pot, some (methD n cs ks), some (rowD .frz rs), some (rowD .frz (headsL n m (turnL n cs l))), some (.int (cs.length : Nat)), some (.int (n : Nat)), some (rowD .own (lotsL n cs ks (List.range n))), some (wkD n rs), y8, p9, p10, p11, y12, y13, y14, y15, none, none]) ?_ ⟨_, _, _, _, _, rfl⟩).mono ?_)))
  · rintro d hd _ ⟨y8, y12, y13, y14, y15, rfl⟩
    refine ⟨[some .pot, some (methD n cs ks), some (rowD .frz rs), some (rowD .frz (headsL n m (turnL n cs l))), some (.int (cs.length : Nat)), some (.int (n : Nat)), some (rowD .own (lotsL n cs ks (List.range n))), some (wkD n rs), y8, p9, p10, p11, some d, y13, y14, y15, none, none], rfl, (turn_body B w W (List.range n)).mono ?_⟩
    rintro _ ⟨z8, z13, z14, z15, rfl⟩
    exact ⟨_, rfl, _, _, _, _, _, rfl⟩
  · rintro _ ⟨e, rfl, y8, y12, y13, y14, y15, rfl⟩
    exact ⟨_, rfl, hEq (retS_eq con_eq (sc_bl _)) ⟨_, rfl, rfl⟩⟩
end
end My

set_option Elab.async false
set_option linter.all false
set_option maxRecDepth 100000
set_option maxHeartbeats 1000000
namespace My
open PySem PySem.Spec PyProof.Rows L2 Dn
/-! ## k24: the walk of `_law_right` -/
theorem fi_lists {f : Fl} {xs : List D} (h : ∀ d ∈ xs, fitD 62 d = true ∧ costD d ≤ 4000) (hl : xs.length ≤ 8) : Fi (.lst f xs) := by
  have gen : ∀ ys : List D, (∀ d ∈ ys, fitD 62 d = true ∧ costD d ≤ 4000) → fitL 62 ys = true ∧ costL ys ≤ 4001 * ys.length := by
    intro ys
    induction ys with
    | nil => exact fun _ => ⟨by rw [fitL], by rw [costL]; omega⟩
    | cons d ys ih =>
      intro h
      obtain ⟨a, b⟩ := ih fun x hx => h x (List.mem_cons_of_mem _ hx)
      obtain ⟨c, e⟩ := h d List.mem_cons_self
      exact ⟨by rw [fitL, a, c]; rfl, by rw [costL, List.length_cons]; omega⟩
  obtain ⟨a, b⟩ := gen xs h
  exact ⟨by rw [fitD]; exact a, by rw [costD]; omega⟩
theorem mul3 (f : Fl) (a : List D) : D.mulT (.lst f [.lst .bor a]) (.int 3) = .ret (.lst .bor [.lst .bor a, .lst .bor a, .lst .bor a]) := rfl
section
variable {n m : Nat} {cs ks rs : List (List Int)} {r s t c l : List Int} {mo : Int}
theorem rounds_int (n : Nat) : (idL n).map D.int = (List.range n).map fun i : Nat => D.int i := by unfold idL; rw [List.map_map]; rfl
theorem every_at {j : Nat} (hj : j < cs.length + 1) : ((List.range (cs.length + 1)).map (sq n cs))[j]? = some (sq n cs j) := by
  rw [List.getElem?_map, List.getElem?_range hj]; rfl
abbrev bodyC : SD := (seqS (parS [19, 20] (argsN (bin2 D.ix (var 17) (var 18)) (argsN (bin2 D.ix (var 17) (bin2 D.add (var 18) (con (.int 1)))) args0))) (ifS (andT (testE (bin2 D.ne (var 15) (var 16))) (andT (testE (bin2 D.eq (idxE (var 19) (var 15)) (idxE (var 20) (var 16)))) (testE (bin2 D.eq (idxE (var 19) (var 16)) (idxE (var 20) (var 15)))))) (appendS 12 (var 18)) skipS))
theorem cr_loop (B : BF n) {b k : Nat} (hb : b < n) (hk : k < n) {a0 a1 a2 a3 a4 a5 a6 a7 a8 a9 a10 a11 a13 a14 a21 a22 : Option D} : ∀ (J F : List Nat) (a18 a19 a20 : Option D), (∀ j ∈ J, j < cs.length) → F.length + J.length ≤ 1000 →
    ∃ p18 p19 p20, loopS (tgN 18) bodyC (J.map fun i : Nat => D.int i) [a0, a1, a2, a3, a4, a5, a6, a7, a8, a9, a10, a11, some (intL .own F), a13, a14, some (.int (b : Nat)), some (.int (k : Nat)), some (rowD .own ((List.range (cs.length + 1)).map (sq n cs))), a18, a19, a20, a21, a22] = .ret (.nx [a0, a1, a2, a3, a4, a5, a6, a7, a8, a9, a10, a11, some (intL .own (F ++ J.filter (crB n cs b k))), a13, a14, some (.int (b : Nat)), some (.int (k : Nat)), some (rowD .own ((List.range (cs.length + 1)).map (sq n cs))), p18, p19, p20, a21, a22])
  | [], F, a18, a19, a20, _, _ => ⟨a18, a19, a20, by rw [List.filter_nil, List.append_nil]; rfl⟩
  | j :: J, F, a18, a19, a20, hJ, hl => by
    rw [List.length_cons] at hl
    have hj := hJ j List.mem_cons_self
    have h1 := sq_row B (cs := cs) j
    have h2 := sq_row B (cs := cs) (j + 1)
    let e2 : Dn.Env := [a0, a1, a2, a3, a4, a5, a6, a7, a8, a9, a10, a11, some (intL .own F), a13, a14, some (.int (b : Nat)), some (.int (k : Nat)), some (rowD .own ((List.range (cs.length + 1)).map (sq n cs))), some (.int (j : Nat)), some (tiD (sq n cs j)), some (tiD (sq n cs (j + 1))), a21, a22]
    have hpar : parS [19, 20] (argsN (bin2 D.ix (var 17) (var 18)) (argsN (bin2 D.ix (var 17) (bin2 D.add (var 18) (con (.int 1)))) args0)) [a0, a1, a2, a3, a4, a5, a6, a7, a8, a9, a10, a11, some (intL .own F), a13, a14, some (.int (b : Nat)), some (.int (k : Nat)), some (rowD .own ((List.range (cs.length + 1)).map (sq n cs))), some (.int (j : Nat)), a19, a20, a21, a22] = .ret (.nx e2) := T.bind_eq (argsN_eq (bin2_eq (var_own rfl) (var_int rfl) (ixR (every_at (by omega)))) (argsN_eq (bin2_eq (var_own rfl) (bin2_eq (y := .int 1) (var_int rfl) con_eq rfl) (ixR (k := j + 1) (every_at (by omega)))) args0_eq)) rfl
    have i1 : ∀ (v : Nat) (x : Nat), x < n → var v e2 = .ret (.int (x : Nat)) → idxE (var 19) (var v) e2 = .ret (.int (pR n cs j x : Nat)) := fun v x hx hv => idx_eq (var_ti (r := sq n cs j) rfl) hv (mem_row B h1 hx)
    have i2 : ∀ (v : Nat) (x : Nat), x < n → var v e2 = .ret (.int (x : Nat)) → idxE (var 20) (var v) e2 = .ret (.int (pR n cs (j + 1) x : Nat)) := fun v x hx hv => idx_eq (var_ti (r := sq n cs (j + 1)) rfl) hv (mem_row B h2 hx)
    have hc : andT (testE (bin2 D.ne (var 15) (var 16))) (andT (testE (bin2 D.eq (idxE (var 19) (var 15)) (idxE (var 20) (var 16)))) (testE (bin2 D.eq (idxE (var 19) (var 16)) (idxE (var 20) (var 15))))) e2 = .ret (crB n cs b k j) := by
      have h := andT_b (p := !decide (b = k)) (te (bin2_eq (env := e2) (var_int (i := 15) rfl) (var_int (i := 16) rfl) (ne_nat b k))) fun _ => andT_b (p := decide (pR n cs j b = pR n cs (j + 1) k)) (te (bin2_eq (i1 15 b hb (var_int rfl)) (i2 16 k hk (var_int rfl)) (eq_nat _ _))) fun _ => te (bin2_eq (i1 16 k hk (var_int rfl)) (i2 15 b hb (var_int rfl)) (eq_nat _ _))
      rw [h]
      refine congrArg T.ret ?_
      unfold crB
      rw [Bool.eq_iff_iff]
      simp only [Bool.and_eq_true, Bool.not_eq_true', decide_eq_false_iff_not, decide_eq_true_eq, List.cons.injEq, and_true, Int.natCast_inj]
    rcases Bool.eq_false_or_eq_true (crB n cs b k j) with hcr | hcr
    · rw [hcr] at hc
      obtain ⟨p18, p19, p20, e⟩ := cr_loop B hb hk (a0 := a0) (a1 := a1) (a2 := a2) (a3 := a3) (a4 := a4) (a5 := a5) (a6 := a6) (a7 := a7) (a8 := a8) (a9 := a9) (a10 := a10) (a11 := a11) (a13 := a13) (a14 := a14) (a21 := a21) (a22 := a22) J (F ++ [j]) (some (.int (j : Nat))) (some (tiD (sq n cs j))) (some (tiD (sq n cs (j + 1)))) (fun x hx => hJ x (List.mem_cons_of_mem _ hx)) (by rw [List.length_append, List.length_singleton]; omega)
      exact ⟨p18, p19, p20, (loop_nx (e1 := [a0, a1, a2, a3, a4, a5, a6, a7, a8, a9, a10, a11, some (intL .own F), a13, a14, some (.int (b : Nat)), some (.int (k : Nat)), some (rowD .own ((List.range (cs.length + 1)).map (sq n cs))), some (.int (j : Nat)), a19, a20, a21, a22]) rfl (seqS_nx hpar (if_t hc (app_int rfl (var_int rfl) (by omega)))) e).trans (by rw [List.filter_cons_of_pos hcr, List.append_assoc]; rfl)⟩
    · rw [hcr] at hc
      obtain ⟨p18, p19, p20, e⟩ := cr_loop B hb hk (a0 := a0) (a1 := a1) (a2 := a2) (a3 := a3) (a4 := a4) (a5 := a5) (a6 := a6) (a7 := a7) (a8 := a8) (a9 := a9) (a10 := a10) (a11 := a11) (a13 := a13) (a14 := a14) (a21 := a21) (a22 := a22) J F (some (.int (j : Nat))) (some (tiD (sq n cs j))) (some (tiD (sq n cs (j + 1)))) (fun x hx => hJ x (List.mem_cons_of_mem _ hx)) (by omega)
      exact ⟨p18, p19, p20, (loop_nx (e1 := [a0, a1, a2, a3, a4, a5, a6, a7, a8, a9, a10, a11, some (intL .own F), a13, a14, some (.int (b : Nat)), some (.int (k : Nat)), some (rowD .own ((List.range (cs.length + 1)).map (sq n cs))), some (.int (j : Nat)), a19, a20, a21, a22]) rfl (seqS_nx hpar (if_f hc skip_eq)) e).trans (by rw [List.filter_cons_of_neg (by rw [hcr]; exact Bool.false_ne_true)])⟩
theorem every_eq (h : cs.getLast? = some l) : leadR n cs ++ [turnL n cs l] = ((List.range (cs.length + 1)).map (sq n cs)) := by
  have hx : cs ≠ [] := by intro e; rw [e] at h; cases h
  unfold leadR
  rw [lead_sq hx, sq_turn h, List.range_succ, List.map_append]; rfl
def ptL (n : Nat) (cs : List (List Int)) : List D := (List.range n).map fun b => intL .own (pathN n cs b)
theorem right_ok (h5 : mo = 5 ∨ mo = 6) : Hd (f__law_right [.pot, .int 3, .int mo]) fun d => d = .bl true := by
  refine hFn ?_
  show Hd (s__law_right [some .pot, some (.int 3), some (.int mo), none, none, none, none, none, none, none, none, none, none, none, none, none, none, none, none, none, none, none, none]) _
  unfold s__law_right
  refine kseq (hSet (hCall (xs := [.pot, .int 3, .int mo, .int 8]) (argsN_eq (var_pot rfl) (argsN_eq (var_int rfl) (argsN_eq (var_int rfl) (argsN_eq con_eq args0_eq)))) (hF ((law_method h5).mono ?_))))
  rintro _ ⟨n, cs, ks, l, B, w, hl12, rfl⟩
  refine ⟨rfl, [some (.pot), some (.int 3), some (.int mo), some (methD n cs ks), none, none, none, none, none, none, none, none, none, none, none, none, none, none, none, none, none, none, none], rfl, ?_⟩
  have okM := fi_M B w
  have hx := w_ne w
  have hn := B.hi
  have hlo := B.lo
  obtain ⟨m, O⟩ := ord_ex B (turn_row B (cs := cs) (c := l))
  have W := wk_of B w hl12 O
  have hT := turn_row B (cs := cs) (c := l)
  have hLd := law_lead B w B.idrow (k := 0) (c := l) rfl
  have hpn : ∀ b, b < n → (∀ i ∈ pathN n cs b, i < 1000) ∧ (pathN n cs b).length ≤ 12 := fun b hb => by
    refine ⟨fun i hi => ?_, by rw [List.length_map, leadR_len hx]; omega⟩
    obtain ⟨r, hr, rfl⟩ := List.mem_map.mp hi
    have := pos_lt B (leadR_row B r hr) hb
    omega
  have fpt : ∀ f : Fl, Fi (.lst f (ptL n cs)) := fun f => by
    refine fi_lists (fun d hd => ?_) (by unfold ptL; rw [List.length_map, List.length_range]; omega)
    obtain ⟨b, hb, rfl⟩ := List.mem_map.mp hd
    obtain ⟨h1, h2⟩ := hpn b (List.mem_range.mp hb)
    obtain ⟨a1, a2⟩ := fit_intL (f := .own) h1 61
    exact ⟨a1, by omega⟩
  refine kseqE (e := [some (.pot), some (.int 3), some (.int mo), some (methD n cs ks), some (.int (n : Nat)), some (.str (reprS (methD n cs ks))), none, none, none, none, none, none, none, none, none, none, none, none, none, none, none, none, none]) (T.bind_eq (a := [.int (n : Nat), .str (reprS (methD n cs ks))]) (argsN_eq (bin2_eq (var_M (n := n) (cs := cs) (ks := ks) rfl) con_eq mix1) (argsN_eq (callN_eq (argsN_eq (var_M (n := n) (cs := cs) (ks := ks) rfl) args0_eq) (one_eq (reprX_ok rfl okM))) args0_eq)) rfl) ?_
  refine kseqE (e := [some (.pot), some (.int 3), some (.int mo), some (methD n cs ks), some (.int (n : Nat)), some (.str (reprS (methD n cs ks))), some (tiD (idL n)), none, none, none, none, none, none, none, none, none, none, none, none, none, none, none, none]) (setS_eq (un1_eq (var_int rfl) B.idr) rfl) ?_
  refine kseqE (e := [some (.pot), some (.int 3), some (.int mo), some (methD n cs ks), some (.int (n : Nat)), some (.str (reprS (methD n cs ks))), some (tiD (idL n)), some (rowD .frz (leadR n cs)), some (tiD (turnL n cs l)), none, none, none, none, none, none, none, none, none, none, none, none, none, none]) (asg_eq (callN_eq (argsN_eq (var_M (n := n) (cs := cs) (ks := ks) rfl) (argsN_eq (var_ti rfl) (argsN_eq con_eq args0_eq))) (cF hLd rfl)) rfl) ?_
  have hPT : compE (srcE true (var 6)) (tgN 18) yesT (compE (srcE true (var 7)) (tgN 22) yesT (idxE (var 22) (var 18)) [22]) [18] [some (.pot), some (.int 3), some (.int mo), some (methD n cs ks), some (.int (n : Nat)), some (.str (reprS (methD n cs ks))), some (tiD (idL n)), some (rowD .frz (leadR n cs)), some (tiD (turnL n cs l)), none, none, none, none, none, none, none, none, none, none, none, none, none, none] = .ret (.lst .own (ptL n cs)) := by
    have e := compFE (α := Nat) (src := srcE true (var 6)) (v := 18) (cond := yesT) (elt := compE (srcE true (var 7)) (tgN 22) yesT (idxE (var 22) (var 18)) [22]) (env := [some (.pot), some (.int 3), some (.int mo), some (methD n cs ks), some (.int (n : Nat)), some (.str (reprS (methD n cs ks))), some (tiD (idL n)), some (rowD .frz (leadR n cs)), some (tiD (turnL n cs l)), none, none, none, none, none, none, none, none, none, none, none, none, none, none]) (fun _ => true) (fun i : Nat => D.int i) (fun b => intL .own (pathN n cs b)) (I := List.range n) ((src_ti (var_ti (r := idL n) rfl)).trans (by rw [rounds_int])) (by rw [List.length_range]; omega) fun b hb => ⟨rfl, comp_idx B (leadR_row B) (List.mem_range.mp hb) (src_row (f := .frz) (.inr rfl) (var_frz rfl)) (by rw [leadR_len hx]; omega) (fun r => var_int (n := (b : Int)) rfl) fun r => var_ti rfl, rfl⟩
    rw [List.filter_eq_self.mpr fun _ _ => rfl] at e
    exact e
  refine kseqE (e := [some (.pot), some (.int 3), some (.int mo), some (methD n cs ks), some (.int (n : Nat)), some (.str (reprS (methD n cs ks))), some (tiD (idL n)), some (rowD .frz (leadR n cs)), some (tiD (turnL n cs l)), some (.lst .own (ptL n cs)), none, none, none, none, none, none, none, none, none, none, none, none, none]) (setS_eq (d := .lst .own (ptL n cs)) hPT rfl) ?_
  have hPF : compE (srcE true (var 6)) (tgN 18) yesT (callN (callF 2 f_path) (argsN (var 3) (argsN (var 18) args0))) [18] [some (.pot), some (.int 3), some (.int mo), some (methD n cs ks), some (.int (n : Nat)), some (.str (reprS (methD n cs ks))), some (tiD (idL n)), some (rowD .frz (leadR n cs)), some (tiD (turnL n cs l)), some (.lst .own (ptL n cs)), none, none, none, none, none, none, none, none, none, none, none, none, none] = .ret (.lst .own (ptL n cs)) := by
    have e := compFE (α := Nat) (src := srcE true (var 6)) (v := 18) (cond := yesT) (elt := callN (callF 2 f_path) (argsN (var 3) (argsN (var 18) args0))) (env := [some (.pot), some (.int 3), some (.int mo), some (methD n cs ks), some (.int (n : Nat)), some (.str (reprS (methD n cs ks))), some (tiD (idL n)), some (rowD .frz (leadR n cs)), some (tiD (turnL n cs l)), some (.lst .own (ptL n cs)), none, none, none, none, none, none, none, none, none, none, none, none, none]) (fun _ => true) (fun i : Nat => D.int i) (fun b => intL .own (pathN n cs b)) (I := List.range n) ((src_ti (var_ti (r := idL n) rfl)).trans (by rw [rounds_int])) (by rw [List.length_range]; omega) fun b hb => ⟨rfl, callN_eq (argsN_eq (var_M (n := n) (cs := cs) (ks := ks) rfl) (argsN_eq (var_int (n := (b : Int)) rfl) args0_eq)) (cF (path_ok B w (List.mem_range.mp hb)) rfl), rfl⟩
    rw [List.filter_eq_self.mpr fun _ _ => rfl] at e
    exact e
  have hPP : compE (srcE true (var 6)) (tgN 18) yesT (callN (callP [1, 0] 2 f_path) (argsN (var 18) (argsN (var 3) args0))) [18] [some (.pot), some (.int 3), some (.int mo), some (methD n cs ks), some (.int (n : Nat)), some (.str (reprS (methD n cs ks))), some (tiD (idL n)), some (rowD .frz (leadR n cs)), some (tiD (turnL n cs l)), some (.lst .own (ptL n cs)), none, none, none, none, none, none, none, none, none, none, none, none, none] = .ret (.lst .own (ptL n cs)) := by
    have e := compFE (α := Nat) (src := srcE true (var 6)) (v := 18) (cond := yesT) (elt := callN (callP [1, 0] 2 f_path) (argsN (var 18) (argsN (var 3) args0))) (env := [some (.pot), some (.int 3), some (.int mo), some (methD n cs ks), some (.int (n : Nat)), some (.str (reprS (methD n cs ks))), some (tiD (idL n)), some (rowD .frz (leadR n cs)), some (tiD (turnL n cs l)), some (.lst .own (ptL n cs)), none, none, none, none, none, none, none, none, none, none, none, none, none]) (fun _ => true) (fun i : Nat => D.int i) (fun b => intL .own (pathN n cs b)) (I := List.range n) ((src_ti (var_ti (r := idL n) rfl)).trans (by rw [rounds_int])) (by rw [List.length_range]; omega) fun b hb => ⟨rfl, callN_eq (argsN_eq (var_int (n := (b : Int)) rfl) (argsN_eq (var_M (n := n) (cs := cs) (ks := ks) rfl) args0_eq)) (cP rfl (path_ok B w (List.mem_range.mp hb)) rfl rfl), rfl⟩
    rw [List.filter_eq_self.mpr fun _ _ => rfl] at e
    exact e
  refine kseqE (e := [some (.pot), some (.int 3), some (.int mo), some (methD n cs ks), some (.int (n : Nat)), some (.str (reprS (methD n cs ks))), some (tiD (idL n)), some (rowD .frz (leadR n cs)), some (tiD (turnL n cs l)), some (.lst .own (ptL n cs)), none, none, none, none, none, none, none, none, none, none, none, none, none]) (if_f (reprNe (x := .lst .own [.lst .own (ptL n cs), .lst .own (ptL n cs)]) (y := .lst .bor [.lst .bor (ptL n cs), .lst .bor (ptL n cs)]) (callN_eq (argsN_eq hPF (argsN_eq hPP args0_eq)) rfl) (callN_eq (argsN_eq (x := .lst .bor (ptL n cs)) rfl (argsN_eq (x := .lst .bor (ptL n cs)) rfl args0_eq)) rfl) rfl rfl (fi_ok (two_of (fpt _) (fpt _)) (by show 2 ≤ 8; decide)) (fi_ok (two_of (fpt _) (fpt _)) (by show 2 ≤ 8; decide)) (toP_lst (toPL_cons (toP_lst rfl) (toPL_cons (toP_lst rfl) rfl)))) skip_eq) ?_
  refine kseq (hPar (hArgs (hCallD (hArgs (hCall (xs := [.pot, .lst .own ((idL n).map .int)]) (argsN_eq (var_pot rfl) (argsN_eq (callN_eq (argsN_eq (var_ti rfl) args0_eq) (one_eq ?_)) args0_eq)) (hF ((mixed_ok (xs := (idL n).map .int) rfl (fun d hd => by
    obtain ⟨i, _, rfl⟩ := List.mem_map.mp hd
    exact pl_int i) (by rw [List.length_map, B.idrow.len]; omega)).mono ?_)))))))
  · show T.ret (newL ((idL n).map D.int)) = _
    rw [rounds_int, newL_nat]; rfl
  rintro _ ⟨ys, hy, rfl⟩
  have hints : ∀ zs : List D, (∀ d ∈ zs, d ∈ (idL n).map D.int) → ∃ hd : List Int, zs = hd.map D.int := by
    intro zs
    induction zs with
    | nil => exact fun _ => ⟨[], rfl⟩
    | cons d zs ih =>
      intro hm
      obtain ⟨hd, rfl⟩ := ih fun x hx => hm x (List.mem_cons_of_mem _ hx)
      obtain ⟨i, _, rfl⟩ := List.mem_map.mp (hm d List.mem_cons_self)
      exact ⟨i :: hd, rfl⟩
  obtain ⟨hd, rfl⟩ := hints ys fun d hd => hy.mem_iff.mp hd
  have hperm : hd.Perm (idL n) := by
    have h := hy.map fun d => match d with | D.int i => i | _ => 0
    rw [List.map_map, List.map_map] at h
    have e1 : hd.map ((fun d => match d with | D.int i => i | _ => 0) ∘ D.int) = hd := (List.map_congr_left fun i _ => rfl).trans (List.map_id hd)
    have e2 : (idL n).map ((fun d => match d with | D.int i => i | _ => 0) ∘ D.int) = idL n := (List.map_congr_left fun i _ => rfl).trans (List.map_id _)
    rw [e1, e2] at h
    exact h
  have hh : Row n hd := ⟨by rw [hperm.length_eq, B.idrow.len], fun i hi => B.idrow.rng i (hperm.mem_iff.mp hi), hperm.nodup_iff.mpr B.idrow.nd⟩
  refine hArg0 (hEq (a := tiD hd) toTup_ti (hArgs ((hCall (xs := [.pot, .int (n : Nat)]) (argsN_eq (var_pot rfl) (argsN_eq (var_int rfl) args0_eq)) (hF (hDraw (m := (n : Nat)) (by omega)))).mono ?_)))
  rintro _ ⟨bl, b0, b1, rfl⟩
  obtain ⟨bl, rfl⟩ := Int.eq_ofNat_of_zero_le b0
  have hbl : bl < n := by omega
  refine hArg0 ⟨[some (.pot), some (.int 3), some (.int mo), some (methD n cs ks), some (.int (n : Nat)), some (.str (reprS (methD n cs ks))), some (tiD (idL n)), some (rowD .frz (leadR n cs)), some (tiD (turnL n cs l)), some (.lst .own (ptL n cs)), some (tiD hd), some (.int (bl : Nat)), none, none, none, none, none, none, none, none, none, none, none], rfl, _, rfl, ?_⟩
  have hLh := law_lead B w hh (k := 0) (c := l) rfl
  have e12 : (pathL hd cs.dropLast).map (fun r => pos r bl) = pathN n cs (pos hd bl) := by
    rw [path_comp hh, List.map_map]
    exact List.map_congr_left fun r hr => pos_comp B hh (leadR_row B r hr) hbl
  refine kseqE (e := [some (.pot), some (.int 3), some (.int mo), some (methD n cs ks), some (.int (n : Nat)), some (.str (reprS (methD n cs ks))), some (tiD (idL n)), some (rowD .frz (leadR n cs)), some (tiD (turnL n cs l)), some (.lst .own (ptL n cs)), some (tiD hd), some (.int (bl : Nat)), some (intL .own (pathN n cs (pos hd bl))), none, none, none, none, none, none, none, none, none, none]) (setS_eq (d := intL .own (pathN n cs (pos hd bl))) ((comp_idx B (pathL_rows _ _ hh) hbl (src_row (f := .frz) (.inr rfl) (bin2_eq (callN_eq (argsN_eq (var_M (n := n) (cs := cs) (ks := ks) rfl) (argsN_eq (var_ti rfl) (argsN_eq con_eq args0_eq))) (cF hLh rfl)) con_eq (t := .ret (rowD .frz (pathL hd cs.dropLast))) rfl)) (by rw [pathL_len, List.length_dropLast]; omega) (fun r => var_int rfl) fun r => var_ti rfl).trans (by rw [e12])) rfl) ?_
  have hfrom := from_ok B w hh hbl
  obtain ⟨g1, g2⟩ := hpn (pos hd bl) (pos_lt B hh hbl)
  refine kseqE (e := [some (.pot), some (.int 3), some (.int mo), some (methD n cs ks), some (.int (n : Nat)), some (.str (reprS (methD n cs ks))), some (tiD (idL n)), some (rowD .frz (leadR n cs)), some (tiD (turnL n cs l)), some (.lst .own (ptL n cs)), some (tiD hd), some (.int (bl : Nat)), some (intL .own (pathN n cs (pos hd bl))), none, none, none, none, none, none, none, none, none, none]) (if_f (reprNe (x := .lst .own [intL .own (pathN n cs (pos hd bl)), intL .own (pathN n cs (pos hd bl))]) (y := .lst .bor [intL .bor (pathN n cs (pos hd bl)), intL .bor (pathN n cs (pos hd bl))]) (callN_eq (argsN_eq (callN_eq (argsN_eq (var_M (n := n) (cs := cs) (ks := ks) rfl) (argsN_eq (var_ti rfl) (argsN_eq (var_int rfl) args0_eq))) (cF hfrom rfl)) (argsN_eq (callN_eq (argsN_eq (var_int rfl) (argsN_eq (var_ti rfl) (argsN_eq (var_M (n := n) (cs := cs) (ks := ks) rfl) args0_eq))) (cP rfl hfrom rfl rfl)) args0_eq)) rfl) (callN_eq (argsN_eq (x := intL .bor (pathN n cs (pos hd bl))) rfl (argsN_eq (x := intL .bor (pathN n cs (pos hd bl))) rfl args0_eq)) rfl) rfl rfl (ok_pair g1 g1 (by omega) (by omega)) (ok_pair g1 g1 (by omega) (by omega)) (toP_lst (toPL_cons (toP_lst rfl) (toPL_cons (toP_lst rfl) rfl)))) skip_eq) ?_
  have hcrs := law_course B w (k := 0) (c := l) rfl O
  refine kseqE (e := [some (.pot), some (.int 3), some (.int mo), some (methD n cs ks), some (.int (n : Nat)), some (.str (reprS (methD n cs ks))), some (tiD (idL n)), some (rowD .frz (leadR n cs)), some (tiD (turnL n cs l)), some (.lst .own (ptL n cs)), some (tiD hd), some (.int (bl : Nat)), some (intL .own (pathN n cs (pos hd bl))), some (rowD .frz (crowsL n m (turnL n cs l) (leadR n cs))), some (rowD .frz (headsL n m (turnL n cs l))), none, none, none, none, none, none, none, none]) (asg_eq (callN_eq (argsN_eq (var_M (n := n) (cs := cs) (ks := ks) rfl) (argsN_eq con_eq args0_eq)) (cF hcrs rfl)) rfl) ?_
  refine kseq (hIfS (hBind (hBind ((hCall (xs := [.pot, methD n cs ks, rowD .frz (crowsL n m (turnL n cs l) (leadR n cs)), rowD .frz (headsL n m (turnL n cs l))]) (argsN_eq (var_pot rfl) (argsN_eq (var_M (n := n) (cs := cs) (ks := ks) rfl) (argsN_eq (var_frz rfl) (argsN_eq (var_frz rfl) args0_eq)))) (hF (bells_ok B w W))).mono ?_))))
  rintro _ rfl
  refine hEq (a := true) rfl (hEq (a := false) rfl ⟨(fun h => nomatch h), fun _ => hEq skip_eq ⟨_, rfl, ?_⟩⟩)
  refine kseq (hPar (hArgs ((hCall (xs := [.pot, .int (n : Nat)]) (argsN_eq (var_pot rfl) (argsN_eq (var_int rfl) args0_eq)) (hF (hDraw (m := (n : Nat)) (by omega)))).mono ?_)))
  rintro _ ⟨b, bb0, bb1, rfl⟩
  obtain ⟨b, rfl⟩ := Int.eq_ofNat_of_zero_le bb0
  refine hArgs ((hCall (xs := [.pot, .int (n : Nat)]) (argsN_eq (var_pot rfl) (argsN_eq (var_int rfl) args0_eq)) (hF (hDraw (m := (n : Nat)) (by omega)))).mono ?_)
  rintro _ ⟨k, k0, k1, rfl⟩
  obtain ⟨k, rfl⟩ := Int.eq_ofNat_of_zero_le k0
  have hb : b < n := by omega
  have hk : k < n := by omega
  refine hArgE (x := rowD .own ((List.range (cs.length + 1)).map (sq n cs))) (bin2_eq (y := rowD .own [turnL n cs l]) (var_frz rfl) (callN_eq (argsN_eq (var_ti rfl) args0_eq) rfl) ((add_rows _ _ _ _ (by rw [leadR_len hx, List.length_singleton]; omega)).trans (by rw [every_eq w.last]))) (hArg0 ⟨[some (.pot), some (.int 3), some (.int mo), some (methD n cs ks), some (.int (n : Nat)), some (.str (reprS (methD n cs ks))), some (tiD (idL n)), some (rowD .frz (leadR n cs)), some (tiD (turnL n cs l)), some (.lst .own (ptL n cs)), some (tiD hd), some (.int (bl : Nat)), some (intL .own (pathN n cs (pos hd bl))), some (rowD .frz (crowsL n m (turnL n cs l) (leadR n cs))), some (rowD .frz (headsL n m (turnL n cs l))), some (.int (b : Nat)), some (.int (k : Nat)), some (rowD .own ((List.range (cs.length + 1)).map (sq n cs))), none, none, none, none, none], rfl, _, rfl, ?_⟩)
  refine kseqE (e := [some (.pot), some (.int 3), some (.int mo), some (methD n cs ks), some (.int (n : Nat)), some (.str (reprS (methD n cs ks))), some (tiD (idL n)), some (rowD .frz (leadR n cs)), some (tiD (turnL n cs l)), some (.lst .own (ptL n cs)), some (tiD hd), some (.int (bl : Nat)), some (intL .own []), some (rowD .frz (crowsL n m (turnL n cs l) (leadR n cs))), some (rowD .frz (headsL n m (turnL n cs l))), some (.int (b : Nat)), some (.int (k : Nat)), some (rowD .own ((List.range (cs.length + 1)).map (sq n cs))), none, none, none, none, none]) (setS_eq (d := intL .own []) rfl rfl) ?_
  obtain ⟨p18, p19, p20, hlp⟩ := cr_loop (cs := cs) B hb hk (a0 := some (.pot)) (a1 := some (.int 3)) (a2 := some (.int mo)) (a3 := some (methD n cs ks)) (a4 := some (.int (n : Nat))) (a5 := some (.str (reprS (methD n cs ks)))) (a6 := some (tiD (idL n))) (a7 := some (rowD .frz (leadR n cs))) (a8 := some (tiD (turnL n cs l))) (a9 := some (.lst .own (ptL n cs))) (a10 := some (tiD hd)) (a11 := some (.int (bl : Nat))) (a13 := some (rowD .frz (crowsL n m (turnL n cs l) (leadR n cs)))) (a14 := some (rowD .frz (headsL n m (turnL n cs l)))) (a21 := none) (a22 := none) (List.range cs.length) [] none none none (fun j hj => List.mem_range.mp hj) (by rw [List.length_range, List.length_nil]; omega)
  rw [List.nil_append] at hlp
  refine kseqE (e := [some (.pot), some (.int 3), some (.int mo), some (methD n cs ks), some (.int (n : Nat)), some (.str (reprS (methD n cs ks))), some (tiD (idL n)), some (rowD .frz (leadR n cs)), some (tiD (turnL n cs l)), some (.lst .own (ptL n cs)), some (tiD hd), some (.int (bl : Nat)), some (intL .own (crossL n cs b k)), some (rowD .frz (crowsL n m (turnL n cs l) (leadR n cs))), some (rowD .frz (headsL n m (turnL n cs l))), some (.int (b : Nat)), some (.int (k : Nat)), some (rowD .own ((List.range (cs.length + 1)).map (sq n cs))), p18, p19, p20, none, none]) (for_eq (rg_src (m := cs.length) ((callN_eq (argsN_eq (var_frz rfl) args0_eq) (one_eq len_row)).trans (by rw [leadR_len hx])) (by omega)) hlp) ?_
  have c1 := cross_ok B w hb hk
  have c2 := cross_ok B w hk hb
  rw [cross_symm] at c2
  refine kseqE (e := [some (.pot), some (.int 3), some (.int mo), some (methD n cs ks), some (.int (n : Nat)), some (.str (reprS (methD n cs ks))), some (tiD (idL n)), some (rowD .frz (leadR n cs)), some (tiD (turnL n cs l)), some (.lst .own (ptL n cs)), some (tiD hd), some (.int (bl : Nat)), some (intL .own (crossL n cs b k)), some (rowD .frz (crowsL n m (turnL n cs l) (leadR n cs))), some (rowD .frz (headsL n m (turnL n cs l))), some (.int (b : Nat)), some (.int (k : Nat)), some (rowD .own ((List.range (cs.length + 1)).map (sq n cs))), p18, p19, p20, some (.lst .own [intL .own (crossL n cs b k), intL .own (crossL n cs b k), intL .own (crossL n cs b k)]), none]) (setS_eq (d := .lst .own [intL .own (crossL n cs b k), intL .own (crossL n cs b k), intL .own (crossL n cs b k)]) (callN_eq (argsN_eq (callN_eq (argsN_eq (var_M (n := n) (cs := cs) (ks := ks) rfl) (argsN_eq (var_int rfl) (argsN_eq (var_int rfl) args0_eq))) (cF c1 rfl)) (argsN_eq (callN_eq (argsN_eq (var_int rfl) (argsN_eq (var_int rfl) (argsN_eq (var_M (n := n) (cs := cs) (ks := ks) rfl) args0_eq))) (cP rfl c1 rfl rfl)) (argsN_eq (callN_eq (argsN_eq (var_M (n := n) (cs := cs) (ks := ks) rfl) (argsN_eq (var_int rfl) (argsN_eq (var_int rfl) args0_eq))) (cF c2 rfl)) args0_eq))) rfl) rfl) ?_
  have fcl : ∀ f : Fl, Fi (intL f (crossL n cs b k)) := fun f => by
    have hle := List.length_filter_le (crB n cs b k) (List.range cs.length)
    rw [List.length_range] at hle
    have hlen : (crossL n cs b k).length ≤ 12 := by unfold crossL; omega
    obtain ⟨a1, a2⟩ := fit_intL (f := f) (I := (crossL n cs b k)) (fun i hi => by have := List.mem_range.mp (List.mem_filter.mp hi).1; omega) 62
    exact ⟨a1, by omega⟩
  have f3 : ∀ f g : Fl, reprOk (.lst f [intL g (crossL n cs b k), intL g (crossL n cs b k), intL g (crossL n cs b k)]) = true := fun f g => fi_ok (fun d hd => by
    simp only [List.mem_cons, List.not_mem_nil, or_false] at hd
    rcases hd with rfl | rfl | rfl <;> exact fcl g) (by show 3 ≤ 8; decide)
  refine hEq (retS_eq (andE_t (bin2_eq (callN_eq (argsN_eq (x := .lst .bor [intL .own (crossL n cs b k), intL .own (crossL n cs b k), intL .own (crossL n cs b k)]) rfl args0_eq) (one_eq (reprX_ok rfl (f3 _ _)))) (callN_eq (argsN_eq (bin2_eq (x := .lst .bor [intL .bor (crossL n cs b k)]) (callN_eq (argsN_eq (x := intL .bor (crossL n cs b k)) rfl args0_eq) rfl) con_eq (mul3 _ _)) args0_eq) (one_eq (reprX_ok rfl (f3 .bor .bor)))) (eq_of_ne (ne_repr (f3 _ _) (f3 .bor .bor) (toP_lst (toPL_cons (toP_lst rfl) (toPL_cons (toP_lst rfl) (toPL_cons (toP_lst rfl) rfl))))))) (bin2_eq (callN_eq (argsN_eq (var_M (n := n) (cs := cs) (ks := ks) rfl) args0_eq) (one_eq (reprX_ok rfl okM))) (var_str rfl) (eq_of_ne (ne_repr okM okM rfl)))) (sc_bl _)) ⟨_, rfl, rfl⟩
end
end My

set_option Elab.async false
set_option linter.all false
set_option maxRecDepth 100000
namespace My
open PySem PySem.Spec PyProof.Rows L2 Dn
theorem scD : FnScope ["pot", "size", "digit"] ["pot", "size"] (defScope (top 53)) := ⟨rfl, rfl, rfl, by decide +kernel, rfl, by decide +kernel, by decide +kernel⟩
section
variable {P : Program} {w : World} {K : PySem.W.Frag} {mg : Str → Option Value} {base : Heap} {f : Addr} {fd : FuncData}
theorem ok_draw (F : FunD K "_law_draw" "_law_draw" (defArgs (top 53)) (defBody (top 53)) (defScope (top 53)) [] [] f fd) (gd : mg "divmod" = none) (gi : mg "int" = none) : FnG P w K mg base 1 f fd ["pot", "size"] spDraw := by
  refine fnG F scD (fun vs H Q E h => ?_) ?_
  · obtain ⟨p, a, b, n, rfl, _⟩ := h
    rfl
  intro cdv A outer s H vs Q E hg hr h
  refine ⟨_, PSs.nox (pss_cons (ps_if (pt_cmpR op_gt (pe_ix ix_list (pv 0) pe_int (fun _ _ => rfl)) pe_int (nomark _))
        (pss_cons (ps_asg (pe_callB call_divmod rfl gd boot_divmod (pa_cons (pe_ix ix_list (pv 0) pe_int (fun _ _ => rfl)) (pa_cons (pv 1) pa_nil)))
          (pg_tup rfl (pgs_cons (pg_sub (pv 0) pe_int set_list) (pgs_cons (pg_name scD.nd (i := 2) rfl (Or.inl rfl)) pgs_nil))) rfl rfl rfl)
          (pss_one (ps_ret (pv 2)))) pss_nil)
      (pss_cons (ps_asg (pe_op op_mod (pe_callTy call_int1 rfl gi boot_int (pa_cons (pe_op op_add (pe_op op_mul (pe_ix ix_list (pv 0) pe_int (fun _ _ => rfl)) pe_int) pe_int) pa_nil)) pe_int) (pg_sub (pv 0) pe_int set_list) rfl rfl rfl)
      (pss_one (ps_ret (pe_op op_mod (pe_callTy call_int1 rfl gi boot_int (pa_cons (pe_op op_fdiv (pe_op op_mod (pe_callTy call_int1 rfl gi boot_int (pa_cons (pe_op op_mul (pe_ix ix_list (pv 0) pe_int (fun _ _ => rfl)) (pe_ix ix_list (pv 0) pe_int (fun _ _ => rfl))) pa_nil)) pe_int) pe_int) pa_nil)) (pv 1)))))), ?_⟩
  obtain ⟨p, a, b, n, rfl, hp, ha, hb, hb2, hn, hn2, q⟩ := h
  have at0 : ∀ x y : Int, atI [V.int x, V.int y] 0 = some (.int x) := fun _ _ => rfl
  have at1 : ∀ x y : Int, atI [V.int x, V.int y] 1 = some (.int y) := fun _ _ => rfl
  refine ⟨.ref p, rfl, p, _, 0, _, rfl, rfl, .of hp, at0 _ _, a, 0, rfl, rfl, decide (0 < a), rfl, ?_⟩
  by_cases hpos : 0 < a
  · rw [decide_eq_true hpos]
    refine ⟨.ref p, rfl, p, _, 0, _, rfl, rfl, .of hp, at0 _ _, .int n, rfl, a, n, rfl, ⟨hn, hn2⟩, fun t nt => ?_⟩
    have ne : p ≠ t := fun e => by rw [e, nt] at hp; cases hp
    refine ⟨t, _, rfl, .inl (.inl upd_same), rfl, _, _, rfl, ?_⟩
    refine ⟨.ref p, rfl, p, _, 0, 0, rfl, rfl, (upd_ne ne).trans hp, rfl, ?_⟩
    refine ⟨_, _, rfl, ?_⟩
    refine ⟨rfl, ?_⟩
    refine ⟨_, rfl, ?_⟩
    refine q _ (a / n) b (a % n) (Int.ediv_nonneg ha (Int.le_of_lt hn)) hb hb2 (Int.emod_nonneg _ (Int.ne_of_gt hn)) (Int.emod_lt_of_pos _ hn) ⟨upd_same, fun r hr o e => ?_⟩
    rw [upd_ne hr, upd_ne (fun z => by rw [z, nt] at e; cases e)]
    exact e
  · rw [decide_eq_false hpos]
    have bb : -(2 ^ 64) < b ∧ b < 2 ^ 64 := ⟨by omega, by omega⟩
    refine ⟨.ref p, rfl, p, _, 1, _, rfl, rfl, .of hp, at1 _ _, b, _, rfl, rfl, .inl bb, ?_⟩
    refine ⟨_, _, rfl, rfl, .inl ⟨_, rfl, ?_⟩⟩
    generalize hb1 : (b * _ + _ : Int) = b1
    refine ⟨b1, _, rfl, rfl, (by decide : (0 : Int) < 2147483587), ?_⟩
    refine ⟨.ref p, rfl, p, _, 1, 1, rfl, rfl, hp, rfl, ?_⟩
    have hb3 : 0 ≤ b1 % 2147483587 ∧ b1 % 2147483587 < 2147483587 := ⟨Int.emod_nonneg _ (by decide), Int.emod_lt_of_pos _ (by decide)⟩
    show _
    dsimp only [List.set]
    generalize hb4 : b1 % 2147483587 = b2 at hb3 ⊢
    have hp2 : upd H p (.lst [V.int a, V.int b2]) p = some (.lst [V.int a, V.int b2]) := upd_same
    refine ⟨.ref p, rfl, p, _, 1, _, rfl, rfl, .of hp2, at1 _ _, .ref p, rfl, p, _, 1, _, rfl, rfl, .of hp2, at1 _ _, b2, b2, rfl, rfl, .inl ⟨by omega, by omega⟩, ?_⟩
    refine .inl ⟨_, rfl, _, _, rfl, rfl, (by decide : (0 : Int) < 2147483549), _, _, rfl, rfl, (⟨by decide, by decide⟩ : CDiv _ 43), .inl ⟨_, rfl, ?_⟩⟩
    refine ⟨.int n, rfl, _, n, rfl, rfl, hn, ?_⟩
    exact q _ a b2 _ ha hb3.1 (by omega) (Int.emod_nonneg _ (Int.ne_of_gt hn)) (Int.emod_lt_of_pos _ hn) ⟨hp2, fun r hr o e => by rw [upd_ne hr]; exact e⟩
def spPotS (K : PySem.W.Frag) : Sp := fun vs H Q _ => ∃ (s : Addr) (ns : List Int) (k : Int), vs = [.ref s, .int k] ∧ SqL K H s (ns.map V.int) ∧ 0 ≤ k ∧ k < 1000 ∧ ∀ (H1 : Hp) (q : Addr) (a b : Int), Dn.Kept H H1 → 0 ≤ a → 0 ≤ b → b < 4294967296 → H1 q = none → Q (.ref q) (upd H1 q (.lst [.int a, .int b]))
theorem scP : FnScope ["script", "k", "cell"] ["script", "k"] (defScope (top 52)) := ⟨rfl, rfl, rfl, by decide +kernel, rfl, by decide +kernel, by decide +kernel⟩
theorem ok_pot (F : FunD K "_law_pot" "_law_pot" (defArgs (top 52)) (defBody (top 52)) (defScope (top 52)) [] [] f fd) (ga : mg "abs" = none) (gl : mg "len" = none) (gi : mg "int" = none) (gm : mg "max" = none) (gs : mg "sum" = none) : FnG P w K mg base 1 f fd ["script", "k"] (spPotS K) := by
  refine fnG F scP (fun vs H Q E h => ?_) ?_
  · obtain ⟨p, a, b, rfl, _⟩ := h
    rfl
  intro cdv A outer s H vs Q E hg hr h
  refine ⟨_, PSs.nox (pss_cons (ps_set (i := 2) scP.nd rfl (Or.inl rfl) (pe_ifExp (pt_cmpR op_lt (pv 1) (pe_callB call_len rfl gl boot_len (pa_cons (pv 0) pa_nil)) (nomark _)) (pe_callB call_abs rfl ga boot_abs (pa_cons (pe_ix ix_list (pv 0) (pv 1) (fun _ _ => rfl)) pa_nil))
        (pe_op op_add (pe_op op_add (pe_op op_mul pe_int (pv 1)) pe_int) (pe_op op_mod (pe_callTy call_int1 rfl gi boot_int (pa_cons (pe_callB (cr_sumD rfl) rfl gs boot_sum (pa_cons (pe_slice sl_list (pv 0) po_none (po_some pe_int)) pa_nil)) pa_nil)) pe_int))))
      (pss_one (ps_ret (pe_lst (pa_cons (pe_callB (call_max2 rfl) rfl gm boot_max (pa_cons pe_int (pa_cons (pe_op op_sub (pv 2) (pe_op op_pow pe_int pe_int)) pa_nil)))
        (pa_cons (pe_op op_add (pe_op op_mod (pe_callTy call_int1 rfl gi boot_int (pa_cons (pe_op op_add (pe_op op_add (pe_op op_mul (pe_op op_mod (pe_callTy call_int1 rfl gi boot_int (pa_cons (pv 2) pa_nil)) pe_int) pe_int) (pe_op op_mul pe_int (pv 1))) pe_int) pa_nil)) pe_int) pe_int) pa_nil)))))), ?_⟩
  obtain ⟨sa, ns, n, rfl, hS, h0, h1, q⟩ := h
  have inL : LenV K (.ref sa) H (ns.map V.int).length := Or.inl ⟨_, hS, rfl⟩
  refine ⟨.int n, rfl, .ref sa, rfl, _, _, rfl, inL, n, _, rfl, rfl, decide (n < ((ns.map V.int).length : Nat)), rfl, ?_⟩
  by_cases hk : n < ((ns.map V.int).length : Nat)
  · rw [decide_eq_true hk]
    have hk' : n.toNat < ns.length := by rw [List.length_map] at hk; omega
    have ha : atI (ns.map V.int) n = some (.int ns[n.toNat]) := by
      unfold atI ixN
      rw [if_pos h0, if_pos hk]
      show (ns.map V.int)[n.toNat]? = _
      rw [List.getElem?_map, List.getElem?_eq_getElem hk']
      rfl
    refine ⟨.ref sa, rfl, .int n, rfl, sa, _, n, _, rfl, rfl, hS, ha, _, rfl, ?_⟩
    have hc : 0 ≤ (if ns[n.toNat] < 0 then -ns[n.toNat] else ns[n.toNat]) := by split <;> omega
    generalize (if ns[n.toNat] < 0 then -ns[n.toNat] else ns[n.toNat]) = c at hc ⊢
    refine ⟨.int c, rfl, 10, 18, rfl, rfl, (⟨by decide, by decide, by decide⟩ : CPow 10 18), c, _, rfl, rfl, 0, _, rfl, ?_⟩
    refine ⟨.int c, rfl, .inl ⟨c, rfl, c, _, rfl, rfl, (by decide : (0 : Int) < 2147483549), ?_⟩⟩
    have m1 : 0 ≤ c % 2147483549 ∧ c % 2147483549 < 2147483549 := ⟨Int.emod_nonneg _ (by decide), Int.emod_lt_of_pos _ (by decide)⟩
    dsimp only
    generalize c % 2147483549 = m at m1 ⊢
    refine ⟨m, _, rfl, rfl, .inl ⟨by omega, by omega⟩, .int n, rfl, _, n, rfl, rfl, .inr ⟨by omega, by omega⟩, _, _, rfl, rfl, _, _, rfl, rfl, .inl ⟨_, rfl, ?_⟩⟩
    generalize (m * _ + _ + _ : Int) = m2
    refine ⟨m2, _, rfl, rfl, (by decide : (0 : Int) < 2147483563), _, _, rfl, rfl, by show 2 ≤ sizeLine; rw [sizeLine_eq]; omega, fun t nt => ?_⟩
    have m3 : 0 ≤ m2 % 2147483563 ∧ m2 % 2147483563 < 2147483563 := ⟨Int.emod_nonneg _ (by decide), Int.emod_lt_of_pos _ (by decide)⟩
    exact q H t _ _ (fun _ _ e => e) (by split <;> omega) (by omega) (by omega) nt
  · rw [decide_eq_false hk]
    refine ⟨.int n, rfl, _, n, rfl, rfl, .inr ⟨by omega, by omega⟩, _, _, rfl, rfl, ?_⟩
    dsimp only
    refine ⟨.ref sa, rfl, 1, rfl, sa, _, rfl, hS, fun p hp => ?_⟩
    have hcut : cutV (ns.map V.int) none (some 1) = ((ns.drop 0).take (HT.sIx ns.length ns.length (some 1) - 0)).map V.int := by
      unfold cutV
      rw [List.length_map, HT.sIx_none, ← List.map_drop, ← List.map_take]
    rw [hcut]
    generalize (ns.drop 0).take (HT.sIx ns.length ns.length (some 1) - 0) = ms
    have hk1 : Dn.Kept H (upd H p (.lst (ms.map V.int))) := fun r o e => (upd_ne (fun z => by subst z; rw [hp] at e; cases e)).trans e
    refine ⟨.ref p, rfl, p, ms, rfl, .of upd_same, .inl ⟨_, rfl, _, _, rfl, rfl, (by decide : (0 : Int) < 1000003), _, _, rfl, rfl, ?_⟩⟩
    have ms0 : 0 ≤ ms.sum % 1000003 ∧ ms.sum % 1000003 < 1000003 := ⟨Int.emod_nonneg _ (by decide), Int.emod_lt_of_pos _ (by decide)⟩
    dsimp only
    generalize ms.sum % 1000003 = sm at ms0 ⊢
    generalize hc' : (_ * n + _ + sm : Int) = c
    have hc : 0 ≤ c := by omega
    refine ⟨.int c, rfl, 10, 18, rfl, rfl, (⟨by decide, by decide, by decide⟩ : CPow 10 18), c, _, rfl, rfl, 0, _, rfl, ?_⟩
    refine ⟨.int c, rfl, .inl ⟨c, rfl, c, _, rfl, rfl, (by decide : (0 : Int) < 2147483549), ?_⟩⟩
    have m1 : 0 ≤ c % 2147483549 ∧ c % 2147483549 < 2147483549 := ⟨Int.emod_nonneg _ (by decide), Int.emod_lt_of_pos _ (by decide)⟩
    dsimp only
    generalize c % 2147483549 = m at m1 ⊢
    refine ⟨m, _, rfl, rfl, .inl ⟨by omega, by omega⟩, .int n, rfl, _, n, rfl, rfl, .inr ⟨by omega, by omega⟩, _, _, rfl, rfl, _, _, rfl, rfl, .inl ⟨_, rfl, ?_⟩⟩
    generalize (m * _ + _ + _ : Int) = m2
    refine ⟨m2, _, rfl, rfl, (by decide : (0 : Int) < 2147483563), _, _, rfl, rfl, by show 2 ≤ sizeLine; rw [sizeLine_eq]; omega, fun t nt => ?_⟩
    have m3 : 0 ≤ m2 % 2147483563 ∧ m2 % 2147483563 < 2147483563 := ⟨Int.emod_nonneg _ (by decide), Int.emod_lt_of_pos _ (by decide)⟩
    exact q _ t _ _ hk1 (by split <;> omega) (by omega) (by omega) nt
end
end My

set_option Elab.async false
set_option linter.all false
set_option maxRecDepth 100000
set_option maxHeartbeats 1000000
namespace My
open PySem PySem.Spec PyProof.Rows L2 Dn
section
variable {P : Program} {w : World} {K : PySem.W.Frag} {mg : Str → Option Value} {base : Heap} {f fP : Addr} {fd fdP : FuncData}
theorem scLaw : FnScope ["script"] ["script"] (defScope (top 63)) := ⟨rfl, rfl, rfl, by decide +kernel, rfl, by decide +kernel, by decide +kernel⟩
def spLaw (K : PySem.W.Frag) : Sp := fun vs H Q _ => ∃ (a : Addr) (ns : List Int), vs = [.ref a] ∧ SqL K H a (ns.map V.int) ∧ ns.length ≤ 63 ∧ ∀ H', Q (.bl true) H'
theorem ok_law (fr : Fr mg) (F : FunD K "law" "law" (defArgs (top 63)) (defBody (top 63)) (defScope (top 63)) [] [] f fd)
    (GP : FnG P w K mg base 1 fP fdP ["script", "k"] (spPotS K)) (mP : mg "_law_pot" = some (.ref fP)) (DP : FunD K "_law_pot" "_law_pot" (defArgs (top 52)) (defBody (top 52)) (defScope (top 52)) [] [] fP fdP)
    (C1 : Cal P w K mg base 10 "_law_right" ["pot", "least", "most"] (defArgs (top 62)) (defBody (top 62)) (defScope (top 62)) f__law_right) : FnG P w K mg base 11 f fd ["script"] (spLaw K) := by
  obtain ⟨fR, fdR, GR, mR, DR⟩ := C1.ex
  refine fnG F scLaw (fun vs H Q E h => ?_) ?_
  · obtain ⟨a, ns, rfl, _⟩ := h
    rfl
  intro cdv A outer s H vs Q E hg hr h
  have hr1 := hr.mono (show 1 ≤ 10 by decide)
  refine ⟨_, PSs.nox (pss_one (ps_ret (pe_and (pe_fnG GR hr hg rfl mR DR.kp (DR.bindsN bn__law_right) (pa_cons (pe_fnG GP hr1 hg rfl mP DP.kp (DP.bindsN bn__law_pot) (pa_cons (pv 0) (pa_cons pe_int pa_nil))) (pa_cons pe_int (pa_cons pe_int pa_nil)))) (pe_one (pe_fnG GR hr hg rfl mR DR.kp (DR.bindsN bn__law_right) (pa_cons (pe_fnG GP hr1 hg rfl mP DP.kp (DP.bindsN bn__law_pot) (pa_cons (pv 0) (pa_cons pe_int pa_nil))) (pa_cons pe_int (pa_cons pe_int pa_nil)))))))), ?_⟩
  obtain ⟨a, ns, rfl, hS, hl, q⟩ := h
  have two : ∀ (x y : Int) (Z : Zs) (H : Hp), RepL K Z H .arg [.int x, .int y] [.int x, .int y] [] := fun x y Z H => .sc rfl (.sc rfl .nil)
  refine ⟨.ref a, rfl, a, ns, 0, rfl, hS, by decide, by decide, fun H1 p u v k1 hu hv hv2 hp => ?_⟩
  refine law_step (E := E0) (more := [.int 3, .int 5]) (ws := [.int 3, .int 5]) (right_ok (mo := 5) (.inl rfl)).ok hp hu hv hv2 (fun _ => two _ _ _ _) fun H2 k2 => ?_
  refine ⟨true, rfl, ?_⟩
  have hS2 : SqL K H2 a (ns.map V.int) := Dn.Kept.sql (fun r o e => k2 r o (k1 r o e)) hS
  refine ⟨.ref a, rfl, a, ns, 1, rfl, hS2, by decide, by decide, fun H3 p u v k3 hu hv hv2 hp => ?_⟩
  exact law_step (E := E0) (more := [.int 3, .int 6]) (ws := [.int 3, .int 6]) (right_ok (mo := 6) (.inr rfl)).ok hp hu hv hv2 (fun _ => two _ _ _ _) fun H4 k4 => q H4
end
end My

set_option Elab.async false
set_option linter.all false
set_option maxRecDepth 100000
set_option maxHeartbeats 0
namespace My
open PySem PySem.Spec PyProof.Rows L2 Dn
/-! the head -/
def d1 : He.DefD := ⟨("is_integer", none), "is_integer", "is_integer", defArgs (top 1), defBody (top 1), defScope (top 1), [], []⟩
def d2 : He.DefD := ⟨("is_within", none), "is_within", "is_within", defArgs (top 2), defBody (top 2), defScope (top 2), [], []⟩
def d3 : He.DefD := ⟨("is_tuple", none), "is_tuple", "is_tuple", defArgs (top 3), defBody (top 3), defScope (top 3), [], []⟩
def d4 : He.DefD := ⟨("are_rising", none), "are_rising", "are_rising", defArgs (top 4), defBody (top 4), defScope (top 4), [], []⟩
def d5 : He.DefD := ⟨("is_lot", none), "is_lot", "is_lot", defArgs (top 5), defBody (top 5), defScope (top 5), [], []⟩
def d15 : He.DefD := ⟨("rounds_of", none), "rounds_of", "rounds_of", defArgs (top 15), defBody (top 15), defScope (top 15), [], []⟩
def d16 : He.DefD := ⟨("times", none), "times", "times", defArgs (top 16), defBody (top 16), defScope (top 16), [], []⟩
def d17 : He.DefD := ⟨("inverse_of", none), "inverse_of", "inverse_of", defArgs (top 17), defBody (top 17), defScope (top 17), [], []⟩
def d18 : He.DefD := ⟨("order_of", none), "order_of", "order_of", defArgs (top 18), defBody (top 18), defScope (top 18), [], []⟩
def d19 : He.DefD := ⟨("pairs_of", none), "pairs_of", "pairs_of", defArgs (top 19), defBody (top 19), defScope (top 19), [], []⟩
def d20 : He.DefD := ⟨("change_row", none), "change_row", "change_row", defArgs (top 20), defBody (top 20), defScope (top 20), [], []⟩
def d21 : He.DefD := ⟨("is_bells", none), "is_bells", "is_bells", defArgs (top 21), defBody (top 21), defScope (top 21), [], []⟩
def d22 : He.DefD := ⟨("is_row_of", none), "is_row_of", "is_row_of", defArgs (top 22), defBody (top 22), defScope (top 22), [], []⟩
def d23 : He.DefD := ⟨("is_change_of", none), "is_change_of", "is_change_of", defArgs (top 23), defBody (top 23), defScope (top 23), [], []⟩
def d24 : He.DefD := ⟨("want_row", none), "want_row", "want_row", defArgs (top 24), defBody (top 24), defScope (top 24), [], []⟩
def d29 : He.DefD := ⟨("is_method_any", none), "is_method_any", "is_method_any", defArgs (top 29), defBody (top 29), defScope (top 29), [], []⟩
def d30 : He.DefD := ⟨("want_method", none), "want_method", "want_method", defArgs (top 30), defBody (top 30), defScope (top 30), [], []⟩
def d31 : He.DefD := ⟨("lead_of", none), "lead_of", "lead_of", defArgs (top 31), defBody (top 31), defScope (top 31), [], []⟩
def d32 : He.DefD := ⟨("turns_of", none), "turns_of", "turns_of", defArgs (top 32), defBody (top 32), defScope (top 32), [], []⟩
def d34 : He.DefD := ⟨("heads_of", none), "heads_of", "heads_of", defArgs (top 34), defBody (top 34), defScope (top 34), [], []⟩
def d36 : He.DefD := ⟨("course_of", none), "course_of", "course_of", defArgs (top 36), defBody (top 36), defScope (top 36), [], []⟩
def d37 : He.DefD := ⟨("heads_told", none), "heads_told", "heads_told", defArgs (top 37), defBody (top 37), defScope (top 37), [], []⟩
def d39 : He.DefD := ⟨("want_bell", none), "want_bell", "want_bell", defArgs (top 39), defBody (top 39), defScope (top 39), [], []⟩
def d40 : He.DefD := ⟨("want_place", none), "want_place", "want_place", defArgs (top 40), defBody (top 40), defScope (top 40), [], []⟩
def d41 : He.DefD := ⟨("path_of", none), "path_of", "path_of", defArgs (top 41), defBody (top 41), defScope (top 41), [], []⟩
def d42 : He.DefD := ⟨("work_of", none), "work_of", "work_of", defArgs (top 42), defBody (top 42), defScope (top 42), [], []⟩
def d43 : He.DefD := ⟨("order_places", none), "order_places", "order_places", defArgs (top 43), defBody (top 43), defScope (top 43), [], []⟩
def d44 : He.DefD := ⟨("path", none), "path", "path", defArgs (top 44), defBody (top 44), defScope (top 44), [], []⟩
def d45 : He.DefD := ⟨("path_from", none), "path_from", "path_from", defArgs (top 45), defBody (top 45), defScope (top 45), [], []⟩
def d46 : He.DefD := ⟨("work", none), "work", "work", defArgs (top 46), defBody (top 46), defScope (top 46), [], []⟩
def d47 : He.DefD := ⟨("lead_places", none), "lead_places", "lead_places", defArgs (top 47), defBody (top 47), defScope (top 47), [], []⟩
def d48 : He.DefD := ⟨("same_work", none), "same_work", "same_work", defArgs (top 48), defBody (top 48), defScope (top 48), [], []⟩
def d49 : He.DefD := ⟨("leads_behind", none), "leads_behind", "leads_behind", defArgs (top 49), defBody (top 49), defScope (top 49), [], []⟩
def d50 : He.DefD := ⟨("crossings", none), "crossings", "crossings", defArgs (top 50), defBody (top 50), defScope (top 50), [], []⟩
def d52 : He.DefD := ⟨("_law_pot", none), "_law_pot", "_law_pot", defArgs (top 52), defBody (top 52), defScope (top 52), [], []⟩
def d53 : He.DefD := ⟨("_law_draw", none), "_law_draw", "_law_draw", defArgs (top 53), defBody (top 53), defScope (top 53), [], []⟩
def d54 : He.DefD := ⟨("_law_pick", none), "_law_pick", "_law_pick", defArgs (top 54), defBody (top 54), defScope (top 54), [], []⟩
def d55 : He.DefD := ⟨("_law_mixed", none), "_law_mixed", "_law_mixed", defArgs (top 55), defBody (top 55), defScope (top 55), [], []⟩
def d56 : He.DefD := ⟨("_law_changes", none), "_law_changes", "_law_changes", defArgs (top 56), defBody (top 56), defScope (top 56), [], []⟩
def d57 : He.DefD := ⟨("_law_changed", none), "_law_changed", "_law_changed", defArgs (top 57), defBody (top 57), defScope (top 57), [], []⟩
def d58 : He.DefD := ⟨("_law_method", none), "_law_method", "_law_method", defArgs (top 58), defBody (top 58), defScope (top 58), [], []⟩
def d59 : He.DefD := ⟨("_law_lead", none), "_law_lead", "_law_lead", defArgs (top 59), defBody (top 59), defScope (top 59), [], []⟩
def d60 : He.DefD := ⟨("_law_course", none), "_law_course", "_law_course", defArgs (top 60), defBody (top 60), defScope (top 60), [], []⟩
def d61 : He.DefD := ⟨("_law_bells_right", none), "_law_bells_right", "_law_bells_right", defArgs (top 61), defBody (top 61), defScope (top 61), [], []⟩
def d62 : He.DefD := ⟨("_law_right", none), "_law_right", "_law_right", defArgs (top 62), defBody (top 62), defScope (top 62), [], []⟩
def d63 : He.DefD := ⟨("law", none), "law", "law", defArgs (top 63), defBody (top 63), defScope (top 63), [], []⟩
def fn : List He.DefD := ([d1, d2, d3, d4, d5, d15, d16, d17, d18, d19, d20, d21, d22, d23, d24, d29, d30, d31, d32, d34] : List He.DefD) ++ ([d36, d37, d39, d40, d41, d42, d43, d44, d45, d46, d47, d48, d49, d50, d52, d53, d54, d55, d56, d57] : List He.DefD) ++ ([d58, d59, d60, d61, d62, d63] : List He.DefD)
def fa : List He.Fa := ([.glo "is_integer", .glo "is_within", .glo "is_tuple", .glo "are_rising", .glo "is_lot", .glo "WorkError", .glo "InvalidRow", .glo "InvalidMethod", .glo "InvalidBell", .glo "InvalidPlace", .int "LEAST_BELLS" 3, .int "MOST_BELLS" 6, .glo "rounds_of", .glo "times", .glo "inverse_of", .glo "order_of", .glo "pairs_of", .glo "change_row", .glo "is_bells", .glo "is_row_of"] : List He.Fa) ++ ([.glo "is_change_of", .glo "want_row", .str "METHOD" "method", .int "MOST_IN_LEAD" 40, .int "MOST_CALLS" 3, .glo "is_method_any", .glo "want_method", .glo "lead_of", .glo "turns_of", .glo "heads_of", .glo "course_of", .glo "heads_told", .glo "want_bell", .glo "want_place", .glo "path_of", .glo "work_of", .glo "order_places", .glo "path", .glo "path_from", .glo "work"] : List He.Fa) ++ ([.glo "lead_places", .glo "same_work", .glo "leads_behind", .glo "crossings", .glo "_law_pot", .glo "_law_draw", .glo "_law_pick", .glo "_law_mixed", .glo "_law_changes", .glo "_law_changed", .glo "_law_method", .glo "_law_lead", .glo "_law_course", .glo "_law_bells_right", .glo "_law_right", .glo "law", .free "len", .free "range", .free "tuple", .free "list"] : List He.Fa) ++ ([.free "repr", .free "all", .free "any", .free "sorted", .free "set", .free "isinstance", .free "enumerate", .free "dict", .free "divmod", .free "abs", .free "max", .free "min", .free "int", .free "bool", .free "zip", .free "sum", .free "str"] : List He.Fa)
abbrev R : PySem.W.OpenRow := PySem.W.OpenLaw.row PySem.Challenge.rw_pealworks_k24_whole_paths_and_work
abbrev hk : PySem.W.Hook := He.hookD 4 fa fn
def ob (s : PySem.W.SharedT) : He.AlD := He.obsDG 4 fa fn (HandSHeadRun.getT s)
theorem ob_eq (s : PySem.W.SharedT) : ob s = hk.obs s.abs := He.obsDG_eq (HandSHeadRun.getT_eq s)
def loose : List PySem.Str := (["is_integer", "is_within", "is_tuple", "are_rising", "is_lot", "WorkError", "InvalidRow", "InvalidMethod", "InvalidBell", "InvalidPlace", "LEAST_BELLS", "MOST_BELLS", "rounds_of", "times", "inverse_of", "order_of", "pairs_of", "change_row", "is_bells", "is_row_of"] : List PySem.Str) ++ (["is_change_of", "want_row", "METHOD", "MOST_IN_LEAD", "MOST_CALLS", "is_method_any", "want_method", "lead_of", "turns_of", "heads_of", "course_of", "heads_told", "want_bell", "want_place", "path_of", "work_of", "order_places", "path", "path_from", "work"] : List PySem.Str) ++ (["lead_places", "same_work", "leads_behind", "crossings", "_law_pot", "_law_draw", "_law_pick", "_law_mixed", "_law_changes", "_law_changed", "_law_method", "_law_lead", "_law_course", "_law_bells_right", "_law_right"] : List PySem.Str)
theorem run (w : World) : HandSHeadRun.RunEq R (PySem.W.view R.prog [63]) hk ob 4000 loose w := by
  intro os
  kernel_rfl
theorem facts {P : Program} {w : World} {K : PySem.W.Frag} {h : Heap} {mg : Str → Option Value} {f : Addr} (X : K.In h) (G : h.Ns mainGlobals mg) (hfa : mg ("law" : Str) = some (.ref f)) (c : He.SaysD fa fn K) :
    ∃ fd : FuncData, (∀ (s : Shared) (v : Value), BindsTo s fd ⟨[v], []⟩ [("script", v)]) ∧ ∀ base : Heap, K.In base → base.Ns mainGlobals mg → FnG P w K mg base 11 f fd ["script"] (spLaw K) := by
  obtain ⟨fd, F⟩ := c.def_ 45 (d := d63) rfl
  have e := hfa.symm.trans (He.glo_ok X G (c.fact 55 (f := .glo "law") rfl))
  cases e
  have b := L2.FunD.bindsA (ps := ["script"]) F fun _ _ _ _ _ _ us hl => match us, hl with | [_], _ => rfl
  refine ⟨fd, fun s v => b s [v] rfl, fun base _ _ => ?_⟩
  have fr : Fr mg := ⟨He.free_ok X G (c.fact 56 (f := .free "len") rfl), He.free_ok X G (c.fact 57 (f := .free "range") rfl), He.free_ok X G (c.fact 58 (f := .free "tuple") rfl), He.free_ok X G (c.fact 59 (f := .free "list") rfl), He.free_ok X G (c.fact 60 (f := .free "repr") rfl), He.free_ok X G (c.fact 61 (f := .free "all") rfl), He.free_ok X G (c.fact 62 (f := .free "any") rfl), He.free_ok X G (c.fact 63 (f := .free "sorted") rfl), He.free_ok X G (c.fact 64 (f := .free "set") rfl), He.free_ok X G (c.fact 65 (f := .free "isinstance") rfl), He.free_ok X G (c.fact 66 (f := .free "enumerate") rfl), He.free_ok X G (c.fact 67 (f := .free "dict") rfl), He.free_ok X G (c.fact 68 (f := .free "divmod") rfl), He.free_ok X G (c.fact 69 (f := .free "abs") rfl), He.free_ok X G (c.fact 70 (f := .free "max") rfl), He.free_ok X G (c.fact 71 (f := .free "min") rfl), He.free_ok X G (c.fact 72 (f := .free "int") rfl), He.free_ok X G (c.fact 73 (f := .free "bool") rfl), He.free_ok X G (c.fact 74 (f := .free "zip") rfl), He.free_ok X G (c.fact 75 (f := .free "sum") rfl), He.free_ok X G (c.fact 76 (f := .free "str") rfl)⟩
  obtain ⟨fd1, F1⟩ := c.def_ 0 (d := d1) rfl
  have m1 := He.glo_ok X G (c.fact 0 (f := .glo "is_integer") rfl)
  have C_is_integer : Cal P w K mg base 1 "is_integer" ["value"] (defArgs (top 1)) (defBody (top 1)) (defScope (top 1)) f_is_integer := c_is_integer fr F1 m1  
  obtain ⟨fd3, F3⟩ := c.def_ 2 (d := d3) rfl
  have m3 := He.glo_ok X G (c.fact 2 (f := .glo "is_tuple") rfl)
  have C_is_tuple : Cal P w K mg base 1 "is_tuple" ["value", "many"] (defArgs (top 3)) (defBody (top 3)) (defScope (top 3)) f_is_tuple := c_is_tuple fr F3 m3  
  obtain ⟨fd4, F4⟩ := c.def_ 3 (d := d4) rfl
  have m4 := He.glo_ok X G (c.fact 3 (f := .glo "are_rising") rfl)
  have C_are_rising : Cal P w K mg base 1 "are_rising" ["values"] (defArgs (top 4)) (defBody (top 4)) (defScope (top 4)) f_are_rising := c_are_rising fr F4 m4  
  obtain ⟨fd15, F15⟩ := c.def_ 5 (d := d15) rfl
  have m15 := He.glo_ok X G (c.fact 12 (f := .glo "rounds_of") rfl)
  have C_rounds_of : Cal P w K mg base 1 "rounds_of" ["bells"] (defArgs (top 15)) (defBody (top 15)) (defScope (top 15)) f_rounds_of := c_rounds_of fr F15 m15  
  obtain ⟨fd16, F16⟩ := c.def_ 6 (d := d16) rfl
  have m16 := He.glo_ok X G (c.fact 13 (f := .glo "times") rfl)
  have C_times : Cal P w K mg base 1 "times" ["row", "other"] (defArgs (top 16)) (defBody (top 16)) (defScope (top 16)) f_times := c_times fr F16 m16  
  obtain ⟨fd17, F17⟩ := c.def_ 7 (d := d17) rfl
  have m17 := He.glo_ok X G (c.fact 14 (f := .glo "inverse_of") rfl)
  have C_inverse_of : Cal P w K mg base 1 "inverse_of" ["row"] (defArgs (top 17)) (defBody (top 17)) (defScope (top 17)) f_inverse_of := c_inverse_of fr F17 m17  
  obtain ⟨fd19, F19⟩ := c.def_ 9 (d := d19) rfl
  have m19 := He.glo_ok X G (c.fact 16 (f := .glo "pairs_of") rfl)
  have C_pairs_of : Cal P w K mg base 1 "pairs_of" ["bells", "change"] (defArgs (top 19)) (defBody (top 19)) (defScope (top 19)) f_pairs_of := c_pairs_of fr F19 m19  
  obtain ⟨fd52, F52⟩ := c.def_ 34 (d := d52) rfl
  have m52 := He.glo_ok X G (c.fact 44 (f := .glo "_law_pot") rfl)
  obtain ⟨fd53, F53⟩ := c.def_ 35 (d := d53) rfl
  have m53 := He.glo_ok X G (c.fact 45 (f := .glo "_law_draw") rfl)
  have C__law_draw : Cal P w K mg base 1 "_law_draw" ["pot", "size"] (defArgs (top 53)) (defBody (top 53)) (defScope (top 53)) f__law_draw := ⟨_, _, (ok_draw F53 fr.divmod fr.int).imp draw_spF, m53, F53⟩
  obtain ⟨fd56, F56⟩ := c.def_ 38 (d := d56) rfl
  have m56 := He.glo_ok X G (c.fact 48 (f := .glo "_law_changes") rfl)
  have C__law_changes : Cal P w K mg base 1 "_law_changes" ["bells"] (defArgs (top 56)) (defBody (top 56)) (defScope (top 56)) f__law_changes := c__law_changes fr F56 m56  
  obtain ⟨fd57, F57⟩ := c.def_ 39 (d := d57) rfl
  have m57 := He.glo_ok X G (c.fact 49 (f := .glo "_law_changed") rfl)
  have C__law_changed : Cal P w K mg base 1 "_law_changed" ["row", "change"] (defArgs (top 57)) (defBody (top 57)) (defScope (top 57)) f__law_changed := c__law_changed fr F57 m57  
  obtain ⟨fd2, F2⟩ := c.def_ 1 (d := d2) rfl
  have m2 := He.glo_ok X G (c.fact 1 (f := .glo "is_within") rfl)
  have C_is_within : Cal P w K mg base 2 "is_within" ["value", "least", "most"] (defArgs (top 2)) (defBody (top 2)) (defScope (top 2)) f_is_within := c_is_within fr F2 m2 C_is_integer 
  obtain ⟨fd18, F18⟩ := c.def_ 8 (d := d18) rfl
  have m18 := He.glo_ok X G (c.fact 15 (f := .glo "order_of") rfl)
  have C_order_of : Cal P w K mg base 2 "order_of" ["row"] (defArgs (top 18)) (defBody (top 18)) (defScope (top 18)) f_order_of := c_order_of fr F18 m18 C_rounds_of C_times 
  obtain ⟨fd20, F20⟩ := c.def_ 10 (d := d20) rfl
  have m20 := He.glo_ok X G (c.fact 17 (f := .glo "change_row") rfl)
  have C_change_row : Cal P w K mg base 2 "change_row" ["bells", "change"] (defArgs (top 20)) (defBody (top 20)) (defScope (top 20)) f_change_row := c_change_row fr F20 m20 C_pairs_of 
  obtain ⟨fd54, F54⟩ := c.def_ 36 (d := d54) rfl
  have m54 := He.glo_ok X G (c.fact 46 (f := .glo "_law_pick") rfl)
  have C__law_pick : Cal P w K mg base 2 "_law_pick" ["pot", "some"] (defArgs (top 54)) (defBody (top 54)) (defScope (top 54)) f__law_pick := c__law_pick fr F54 m54 C__law_draw 
  obtain ⟨fd55, F55⟩ := c.def_ 37 (d := d55) rfl
  have m55 := He.glo_ok X G (c.fact 47 (f := .glo "_law_mixed") rfl)
  have C__law_mixed : Cal P w K mg base 2 "_law_mixed" ["pot", "some"] (defArgs (top 55)) (defBody (top 55)) (defScope (top 55)) f__law_mixed := c__law_mixed fr F55 m55 C__law_draw 
  obtain ⟨fd59, F59⟩ := c.def_ 41 (d := d59) rfl
  have m59 := He.glo_ok X G (c.fact 51 (f := .glo "_law_lead") rfl)
  have C__law_lead : Cal P w K mg base 2 "_law_lead" ["method", "head", "call"] (defArgs (top 59)) (defBody (top 59)) (defScope (top 59)) f__law_lead := c__law_lead fr F59 m59 C__law_changed 
  obtain ⟨fd5, F5⟩ := c.def_ 4 (d := d5) rfl
  have m5 := He.glo_ok X G (c.fact 4 (f := .glo "is_lot") rfl)
  have C_is_lot : Cal P w K mg base 3 "is_lot" ["value", "most"] (defArgs (top 5)) (defBody (top 5)) (defScope (top 5)) f_is_lot := c_is_lot fr F5 m5 C_is_within C_are_rising 
  obtain ⟨fd21, F21⟩ := c.def_ 11 (d := d21) rfl
  have m21 := He.glo_ok X G (c.fact 18 (f := .glo "is_bells") rfl)
  have C_is_bells : Cal P w K mg base 3 "is_bells" ["value"] (defArgs (top 21)) (defBody (top 21)) (defScope (top 21)) f_is_bells := c_is_bells fr F21 m21 C_is_within (He.int_ok X G (c.fact 10 (f := .int "LEAST_BELLS" 3) rfl)) (He.int_ok X G (c.fact 11 (f := .int "MOST_BELLS" 6) rfl))
  obtain ⟨fd22, F22⟩ := c.def_ 12 (d := d22) rfl
  have m22 := He.glo_ok X G (c.fact 19 (f := .glo "is_row_of") rfl)
  have C_is_row_of : Cal P w K mg base 3 "is_row_of" ["bells", "value"] (defArgs (top 22)) (defBody (top 22)) (defScope (top 22)) f_is_row_of := c_is_row_of fr F22 m22 C_is_within 
  obtain ⟨fd31, F31⟩ := c.def_ 17 (d := d31) rfl
  have m31 := He.glo_ok X G (c.fact 27 (f := .glo "lead_of") rfl)
  have C_lead_of : Cal P w K mg base 3 "lead_of" ["method"] (defArgs (top 31)) (defBody (top 31)) (defScope (top 31)) f_lead_of := c_lead_of fr F31 m31 C_rounds_of C_times C_change_row 
  obtain ⟨fd39, F39⟩ := c.def_ 22 (d := d39) rfl
  have m39 := He.glo_ok X G (c.fact 32 (f := .glo "want_bell") rfl)
  have C_want_bell : Cal P w K mg base 3 "want_bell" ["method", "bell"] (defArgs (top 39)) (defBody (top 39)) (defScope (top 39)) f_want_bell := c_want_bell fr F39 m39 C_is_within 
  obtain ⟨fd40, F40⟩ := c.def_ 23 (d := d40) rfl
  have m40 := He.glo_ok X G (c.fact 33 (f := .glo "want_place") rfl)
  have C_want_place : Cal P w K mg base 3 "want_place" ["method", "place"] (defArgs (top 40)) (defBody (top 40)) (defScope (top 40)) f_want_place := c_want_place fr F40 m40 C_is_within 
  obtain ⟨fd58, F58⟩ := c.def_ 40 (d := d58) rfl
  have m58 := He.glo_ok X G (c.fact 50 (f := .glo "_law_method") rfl)
  have C__law_method : Cal P w K mg base 3 "_law_method" ["pot", "least", "most", "long"] (defArgs (top 58)) (defBody (top 58)) (defScope (top 58)) f__law_method := c__law_method fr F58 m58 C__law_draw C__law_changes C__law_pick C__law_mixed 
  obtain ⟨fd60, F60⟩ := c.def_ 42 (d := d60) rfl
  have m60 := He.glo_ok X G (c.fact 52 (f := .glo "_law_course") rfl)
  have C__law_course : Cal P w K mg base 3 "_law_course" ["method", "call"] (defArgs (top 60)) (defBody (top 60)) (defScope (top 60)) f__law_course := c__law_course fr F60 m60 C__law_lead 
  obtain ⟨fd23, F23⟩ := c.def_ 13 (d := d23) rfl
  have m23 := He.glo_ok X G (c.fact 20 (f := .glo "is_change_of") rfl)
  have C_is_change_of : Cal P w K mg base 4 "is_change_of" ["bells", "value"] (defArgs (top 23)) (defBody (top 23)) (defScope (top 23)) f_is_change_of := c_is_change_of fr F23 m23 C_is_lot C_pairs_of 
  obtain ⟨fd24, F24⟩ := c.def_ 14 (d := d24) rfl
  have m24 := He.glo_ok X G (c.fact 21 (f := .glo "want_row") rfl)
  have C_want_row : Cal P w K mg base 4 "want_row" ["bells", "row"] (defArgs (top 24)) (defBody (top 24)) (defScope (top 24)) f_want_row := c_want_row fr F24 m24 C_is_row_of 
  obtain ⟨fd32, F32⟩ := c.def_ 18 (d := d32) rfl
  have m32 := He.glo_ok X G (c.fact 28 (f := .glo "turns_of") rfl)
  have C_turns_of : Cal P w K mg base 4 "turns_of" ["method"] (defArgs (top 32)) (defBody (top 32)) (defScope (top 32)) f_turns_of := c_turns_of fr F32 m32 C_lead_of C_times C_change_row 
  obtain ⟨fd41, F41⟩ := c.def_ 24 (d := d41) rfl
  have m41 := He.glo_ok X G (c.fact 34 (f := .glo "path_of") rfl)
  have C_path_of : Cal P w K mg base 4 "path_of" ["method", "place"] (defArgs (top 41)) (defBody (top 41)) (defScope (top 41)) f_path_of := c_path_of fr F41 m41 C_lead_of 
  obtain ⟨fd29, F29⟩ := c.def_ 15 (d := d29) rfl
  have m29 := He.glo_ok X G (c.fact 25 (f := .glo "is_method_any") rfl)
  have C_is_method_any : Cal P w K mg base 5 "is_method_any" ["value"] (defArgs (top 29)) (defBody (top 29)) (defScope (top 29)) f_is_method_any := c_is_method_any fr F29 m29 C_is_tuple C_is_bells C_is_change_of (He.str_ok X G (c.fact 22 (f := .str "METHOD" "method") rfl)) (He.int_ok X G (c.fact 23 (f := .int "MOST_IN_LEAD" 40) rfl)) (He.int_ok X G (c.fact 24 (f := .int "MOST_CALLS" 3) rfl))
  obtain ⟨fd34, F34⟩ := c.def_ 19 (d := d34) rfl
  have m34 := He.glo_ok X G (c.fact 29 (f := .glo "heads_of") rfl)
  have C_heads_of : Cal P w K mg base 5 "heads_of" ["method", "touch"] (defArgs (top 34)) (defBody (top 34)) (defScope (top 34)) f_heads_of := c_heads_of fr F34 m34 C_turns_of C_rounds_of C_times 
  obtain ⟨fd36, F36⟩ := c.def_ 20 (d := d36) rfl
  have m36 := He.glo_ok X G (c.fact 30 (f := .glo "course_of") rfl)
  have C_course_of : Cal P w K mg base 5 "course_of" ["method", "call"] (defArgs (top 36)) (defBody (top 36)) (defScope (top 36)) f_course_of := c_course_of fr F36 m36 C_order_of C_turns_of 
  obtain ⟨fd43, F43⟩ := c.def_ 26 (d := d43) rfl
  have m43 := He.glo_ok X G (c.fact 36 (f := .glo "order_places") rfl)
  have C_order_places : Cal P w K mg base 5 "order_places" ["method", "bell"] (defArgs (top 43)) (defBody (top 43)) (defScope (top 43)) f_order_places := c_order_places fr F43 m43 C_inverse_of C_turns_of 
  obtain ⟨fd30, F30⟩ := c.def_ 16 (d := d30) rfl
  have m30 := He.glo_ok X G (c.fact 26 (f := .glo "want_method") rfl)
  have C_want_method : Cal P w K mg base 6 "want_method" ["method"] (defArgs (top 30)) (defBody (top 30)) (defScope (top 30)) f_want_method := c_want_method fr F30 m30 C_is_method_any 
  obtain ⟨fd37, F37⟩ := c.def_ 21 (d := d37) rfl
  have m37 := He.glo_ok X G (c.fact 31 (f := .glo "heads_told") rfl)
  have C_heads_told : Cal P w K mg base 6 "heads_told" ["method", "call"] (defArgs (top 37)) (defBody (top 37)) (defScope (top 37)) f_heads_told := c_heads_told fr F37 m37 C_heads_of C_course_of 
  obtain ⟨fd42, F42⟩ := c.def_ 25 (d := d42) rfl
  have m42 := He.glo_ok X G (c.fact 35 (f := .glo "work_of") rfl)
  have C_work_of : Cal P w K mg base 7 "work_of" ["method", "bell"] (defArgs (top 42)) (defBody (top 42)) (defScope (top 42)) f_work_of := c_work_of fr F42 m42 C_heads_told C_path_of 
  obtain ⟨fd44, F44⟩ := c.def_ 27 (d := d44) rfl
  have m44 := He.glo_ok X G (c.fact 37 (f := .glo "path") rfl)
  have C_path : Cal P w K mg base 7 "path" ["method", "place"] (defArgs (top 44)) (defBody (top 44)) (defScope (top 44)) f_path := c_path fr F44 m44 C_want_method C_want_place C_path_of 
  obtain ⟨fd45, F45⟩ := c.def_ 28 (d := d45) rfl
  have m45 := He.glo_ok X G (c.fact 38 (f := .glo "path_from") rfl)
  have C_path_from : Cal P w K mg base 7 "path_from" ["method", "row", "bell"] (defArgs (top 45)) (defBody (top 45)) (defScope (top 45)) f_path_from := c_path_from fr F45 m45 C_want_method C_want_row C_want_bell C_path_of 
  obtain ⟨fd47, F47⟩ := c.def_ 30 (d := d47) rfl
  have m47 := He.glo_ok X G (c.fact 40 (f := .glo "lead_places") rfl)
  have C_lead_places : Cal P w K mg base 7 "lead_places" ["method", "bell"] (defArgs (top 47)) (defBody (top 47)) (defScope (top 47)) f_lead_places := c_lead_places fr F47 m47 C_want_method C_want_bell C_order_places 
  obtain ⟨fd48, F48⟩ := c.def_ 31 (d := d48) rfl
  have m48 := He.glo_ok X G (c.fact 41 (f := .glo "same_work") rfl)
  have C_same_work : Cal P w K mg base 7 "same_work" ["method"] (defArgs (top 48)) (defBody (top 48)) (defScope (top 48)) f_same_work := c_same_work fr F48 m48 C_want_method C_order_places 
  obtain ⟨fd49, F49⟩ := c.def_ 32 (d := d49) rfl
  have m49 := He.glo_ok X G (c.fact 42 (f := .glo "leads_behind") rfl)
  have C_leads_behind : Cal P w K mg base 7 "leads_behind" ["method", "bell", "further"] (defArgs (top 49)) (defBody (top 49)) (defScope (top 49)) f_leads_behind := c_leads_behind fr F49 m49 C_want_method C_want_bell C_order_places 
  obtain ⟨fd50, F50⟩ := c.def_ 33 (d := d50) rfl
  have m50 := He.glo_ok X G (c.fact 43 (f := .glo "crossings") rfl)
  have C_crossings : Cal P w K mg base 7 "crossings" ["method", "bell", "further"] (defArgs (top 50)) (defBody (top 50)) (defScope (top 50)) f_crossings := c_crossings fr F50 m50 C_want_method C_want_bell C_path_of C_inverse_of C_turns_of 
  obtain ⟨fd46, F46⟩ := c.def_ 29 (d := d46) rfl
  have m46 := He.glo_ok X G (c.fact 39 (f := .glo "work") rfl)
  have C_work : Cal P w K mg base 8 "work" ["method", "bell"] (defArgs (top 46)) (defBody (top 46)) (defScope (top 46)) f_work := c_work fr F46 m46 C_want_method C_want_bell C_work_of 
  obtain ⟨fd61, F61⟩ := c.def_ 43 (d := d61) rfl
  have m61 := He.glo_ok X G (c.fact 53 (f := .glo "_law_bells_right") rfl)
  have C__law_bells_right : Cal P w K mg base 9 "_law_bells_right" ["pot", "method", "rows", "heads"] (defArgs (top 61)) (defBody (top 61)) (defScope (top 61)) f__law_bells_right := c__law_bells_right fr F61 m61 C_work C_lead_places C_same_work C__law_draw C_leads_behind 
  obtain ⟨fd62, F62⟩ := c.def_ 44 (d := d62) rfl
  have m62 := He.glo_ok X G (c.fact 54 (f := .glo "_law_right") rfl)
  have C__law_right : Cal P w K mg base 10 "_law_right" ["pot", "least", "most"] (defArgs (top 62)) (defBody (top 62)) (defScope (top 62)) f__law_right := c__law_right fr F62 m62 C__law_method C__law_lead C_path C__law_mixed C__law_draw C_path_from C__law_course C__law_bells_right C_crossings 
  exact ok_law fr F (ok_pot F52 fr.abs fr.len fr.int fr.max fr.sum) m52 F52 C__law_right
end My
open PySem PySem.W PySem.Calls PyProof.Rows
set_option maxRecDepth 100000 in
set_option maxHeartbeats 8000000 in
theorem PySem.Challenge.cw_pealworks_k24_whole_paths_and_work_holds : PySem.Challenge.rw_pealworks_k24_whole_paths_and_work.Holds := by
  w_on; o_law
  refine HandSHeadRun.head_any (r := OpenLaw.row PySem.Challenge.rw_pealworks_k24_whole_paths_and_work) (q := view (OpenLaw.row PySem.Challenge.rw_pealworks_k24_whole_paths_and_work).prog [63]) (H := My.hk) (ob := My.ob) (M := 4000) (loose := My.loose) (d := HandSHeadRun.topDef (OpenLaw.row PySem.Challenge.rw_pealworks_k24_whole_paths_and_work).prog 63) (kwd := []) My.ob_eq
    (by kernel_rfl) (fun s => by kernel_rfl) My.run (by kernel_rfl) (by kernel_rfl) (by kernel_rfl) (by rfl) (by first | assumption | decide +kernel) (by decide +kernel) ⟨rfl, rfl, rfl, rfl, rfl, by decide +kernel⟩ ?hw ?hc
  case hw => w_witness2
  case hc =>
    refine Dn.walkG (l := PySem.Challenge.rw_pealworks_k24_whole_paths_and_work) (n := 63) (x := "script") (k := 11) rfl (by decide) (by kernel_rfl) ⟨rfl, by decide, by decide⟩ ?F
    intro w mg fa h Y G hmg0
    obtain ⟨K, KX, c⟩ := Y
    have hmg : mg ("law" : PySem.Str) = some (.ref fa) := by
      have e : (HandSHeadRun.topDef (OpenLaw.row PySem.Challenge.rw_pealworks_k24_whole_paths_and_work).prog 63).name = ("law" : PySem.Str) := by kernel_rfl
      rw [← e]
      exact hmg0
    obtain ⟨fd, hb, hF⟩ := My.facts (P := (PySem.Challenge.rw_pealworks_k24_whole_paths_and_work).prog) (w := w) KX G hmg c
    exact ⟨K, fd, My.spLaw K, KX, hb, fun H a ns hl _ hS => ⟨a, ns, rfl, hS, hl, fun _ => rfl⟩, hF⟩

